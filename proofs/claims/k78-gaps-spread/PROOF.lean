import PyProof.Rows.All
import Wide.All
import OpenK.AllK
import Wide.FinOn
import HandS.ForMost
import HandS.ForExc
import HandS.TupAny
import HandS.TupMul
import HandS.Deep
import HandS.Style
import HandS.IsInst
import HandS.Text
import KE.DataCmp
import KE.DataMinMax
import KE.SortData
import HandS.Comp
import HandS.Zip
import HandS.Conv
import HandS.TupLen
import HandS.WordsDict
import PyProof.TupleOfSeq
import HandS.ExcValue
import KE.GoesEnum
import KE.GoesZip
import KE.GoesMore
import KE.GoesNew
import HandS.WordsExc
import HandS.Sort
import KE.KDictZip
import PySem.Challenge.RW_scriptoria_k78_whole_gaps_spread
set_option Elab.async false
set_option linter.all false
set_option maxRecDepth 100000
set_option maxHeartbeats 4000000
namespace PV
open PySem PySem.Spec PyProof.Rows L2

/-- plain data: what a Python value is, without addresses -/
inductive Val where
  | non | bl (b : Bool) | int (i : Int) | str (x : Str) | ty (n : String) | glo (a : Addr) | scr (is : List Int) | rng (lo hi : Int)
  | tup (vs : List Val) | lst (vs : List Val) | dK (kvs : List (Key × Val)) | dT (kvs : List (List Key × Val))
  deriving Inhabited

abbrev AP := Addr → Prop
/-- the script at a, or the same as one of the module's own objects -/
def ScrAt (K : PySem.W.Frag) (H : Hp) (A : AP) (a : Addr) (xs : List V) : Prop := (¬ A a ∧ ∃ o, H a = some (.frz o (.lst xs))) ∨
  ∃ (o : Obj) (its : Array Value) (n : Nat), K.lookup a = some o ∧ o.cls = .type "list" ∧ o.dict = none ∧ o.data = .seq its n ∧ its.size ≤ sizeLine ∧ Vals xs its.toList
theorem ScrAt.sq {K : PySem.W.Frag} {H : Hp} {A : AP} {a : Addr} {xs : List V} (h : ScrAt K H A a xs) : SqL K H a xs := h.elim (fun ⟨_, o, h⟩ => .inl (.inr ⟨o, h⟩)) .inr
mutual
def Rp (K : PySem.W.Frag) (H : Hp) (A : AP) : Val → V → Prop
  | .non, x => x = .non
  | .bl b, x => x = .bl b
  | .int i, x => x = .int i
  | .str s, x => x = .str s
  | .ty n, x => x = .ty n
  | .glo a, x => x = .ref a
  | .tup vs, x => ∃ a xs, x = .ref a ∧ ¬ A a ∧ H a = some (.tup xs) ∧ RpL K H A vs xs ∧ vs.length ≤ sizeLine
  | .scr is, x => ∃ a, x = .ref a ∧ ScrAt K H A a (is.map V.int)
  | .rng lo hi, x => ∃ a, x = .ref a ∧ ¬ A a ∧ H a = some (.rng lo hi)
  | .lst vs, x => ∃ a xs, x = .ref a ∧ ¬ A a ∧ H a = some (.lst xs) ∧ RpL K H A vs xs ∧ vs.length ≤ sizeLine
  | .dK kvs, x => ∃ a ks, x = .ref a ∧ ¬ A a ∧ Rd H a (.dK ks) ∧ RpK K H A kvs ks ∧ kvs.length ≤ sizeLine
  | .dT kvs, x => ∃ a ks, x = .ref a ∧ ¬ A a ∧ H a = some (.dT ks) ∧ RpT K H A kvs ks ∧ kvs.length ≤ sizeLine
def RpL (K : PySem.W.Frag) (H : Hp) (A : AP) : List Val → List V → Prop
  | [], xs => xs = []
  | v :: vs, xs => ∃ x r, xs = x :: r ∧ Rp K H A v x ∧ RpL K H A vs r
def RpK (K : PySem.W.Frag) (H : Hp) (A : AP) : List (Key × Val) → List (Key × V) → Prop
  | [], xs => xs = []
  | (k, v) :: vs, xs => ∃ x r, xs = (k, x) :: r ∧ Rp K H A v x ∧ RpK K H A vs r
def RpT (K : PySem.W.Frag) (H : Hp) (A : AP) : List (List Key × Val) → List (List Key × V) → Prop
  | [], xs => xs = []
  | (k, v) :: vs, xs => ∃ x r, xs = (k, x) :: r ∧ Rp K H A v x ∧ RpT K H A vs r
end

section
variable {K : PySem.W.Frag} {H H' : Hp} {A A' : AP}
/-- what a datum leans on is kept -/
def Stay (H : Hp) (A : AP) (H' : Hp) (A' : AP) : Prop := ∀ a o, H a = some o → ¬ A a → H' a = some o ∧ ¬ A' a
theorem Stay.rd (s : Stay H A H' A') {a : Addr} {u : HO} (r : Rd H a u) (n : ¬ A a) : Rd H' a u ∧ ¬ A' a := by
  rcases r with r | ⟨o, r⟩
  · exact ⟨.inl (s a _ r n).1, (s a _ r n).2⟩
  · exact ⟨.inr ⟨o, (s a _ r n).1⟩, (s a _ r n).2⟩
mutual
theorem Rp.stay (s : Stay H A H' A') : ∀ (v : Val) (x : V), Rp K H A v x → Rp K H' A' v x
  | .non, x, h => by unfold Rp at h ⊢; exact h
  | .bl _, x, h => by unfold Rp at h ⊢; exact h
  | .int _, x, h => by unfold Rp at h ⊢; exact h
  | .str _, x, h => by unfold Rp at h ⊢; exact h
  | .ty _, x, h => by unfold Rp at h ⊢; exact h
  | .glo _, x, h => by unfold Rp at h ⊢; exact h
  | .tup vs, x, h => by
    unfold Rp at h ⊢
    obtain ⟨a, xs, e, n, r, l, z⟩ := h
    exact ⟨a, xs, e, (s a _ r n).2, (s a _ r n).1, RpL.stay s vs xs l, z⟩
  | .scr is, x, h => by
    unfold Rp at h ⊢
    obtain ⟨a, e, h⟩ := h
    exact ⟨a, e, h.elim (fun ⟨n, o, r⟩ => .inl ⟨(s a _ r n).2, o, (s a _ r n).1⟩) .inr⟩
  | .rng _ _, x, h => by
    unfold Rp at h ⊢
    obtain ⟨a, e, n, r⟩ := h
    exact ⟨a, e, (s a _ r n).2, (s a _ r n).1⟩
  | .lst vs, x, h => by
    unfold Rp at h ⊢
    obtain ⟨a, xs, e, n, r, l, z⟩ := h
    exact ⟨a, xs, e, (s a _ r n).2, (s a _ r n).1, RpL.stay s vs xs l, z⟩
  | .dK vs, x, h => by
    unfold Rp at h ⊢
    obtain ⟨a, xs, e, n, r, l, z⟩ := h
    exact ⟨a, xs, e, (s.rd r n).2, (s.rd r n).1, RpK.stay s vs xs l, z⟩
  | .dT vs, x, h => by
    unfold Rp at h ⊢
    obtain ⟨a, xs, e, n, r, l, z⟩ := h
    exact ⟨a, xs, e, (s a _ r n).2, (s a _ r n).1, RpT.stay s vs xs l, z⟩
theorem RpL.stay (s : Stay H A H' A') : ∀ (vs : List Val) (xs : List V), RpL K H A vs xs → RpL K H' A' vs xs
  | [], xs, h => by unfold RpL at h ⊢; exact h
  | v :: vs, xs, h => by
    unfold RpL at h ⊢
    obtain ⟨x, r, e, h1, h2⟩ := h
    exact ⟨x, r, e, Rp.stay s v x h1, RpL.stay s vs r h2⟩
theorem RpK.stay (s : Stay H A H' A') : ∀ (vs : List (Key × Val)) (xs : List (Key × V)), RpK K H A vs xs → RpK K H' A' vs xs
  | [], xs, h => by unfold RpK at h ⊢; exact h
  | (k, v) :: vs, xs, h => by
    unfold RpK at h ⊢
    obtain ⟨x, r, e, h1, h2⟩ := h
    exact ⟨x, r, e, Rp.stay s v x h1, RpK.stay s vs r h2⟩
theorem RpT.stay (s : Stay H A H' A') : ∀ (vs : List (List Key × Val)) (xs : List (List Key × V)), RpT K H A vs xs → RpT K H' A' vs xs
  | [], xs, h => by unfold RpT at h ⊢; exact h
  | (k, v) :: vs, xs, h => by
    unfold RpT at h ⊢
    obtain ⟨x, r, e, h1, h2⟩ := h
    exact ⟨x, r, e, Rp.stay s v x h1, RpT.stay s vs r h2⟩
end
theorem rp_non {x : V} : Rp K H A .non x ↔ x = .non := by unfold Rp; rfl
theorem rp_bl {b : Bool} {x : V} : Rp K H A (.bl b) x ↔ x = .bl b := by unfold Rp; rfl
theorem rp_int {i : Int} {x : V} : Rp K H A (.int i) x ↔ x = .int i := by unfold Rp; rfl
theorem rp_str {i : Str} {x : V} : Rp K H A (.str i) x ↔ x = .str i := by unfold Rp; rfl
theorem rp_ty {i : String} {x : V} : Rp K H A (.ty i) x ↔ x = .ty i := by unfold Rp; rfl
theorem rp_glo {i : Addr} {x : V} : Rp K H A (.glo i) x ↔ x = .ref i := by unfold Rp; rfl
theorem rp_tup {vs : List Val} {x : V} : Rp K H A (.tup vs) x ↔ ∃ a xs, x = .ref a ∧ ¬ A a ∧ H a = some (.tup xs) ∧ RpL K H A vs xs ∧ vs.length ≤ sizeLine := by rw [Rp]
theorem rp_lst {vs : List Val} {x : V} : Rp K H A (.lst vs) x ↔ ∃ a xs, x = .ref a ∧ ¬ A a ∧ H a = some (.lst xs) ∧ RpL K H A vs xs ∧ vs.length ≤ sizeLine := by rw [Rp]
theorem rp_scr {is : List Int} {x : V} : Rp K H A (.scr is) x ↔ ∃ a, x = .ref a ∧ ScrAt K H A a (is.map V.int) := by rw [Rp]
theorem rp_rng {lo hi : Int} {x : V} : Rp K H A (.rng lo hi) x ↔ ∃ a, x = .ref a ∧ ¬ A a ∧ H a = some (.rng lo hi) := by rw [Rp]
theorem rp_dK {vs} {x : V} : Rp K H A (.dK vs) x ↔ ∃ a xs, x = .ref a ∧ ¬ A a ∧ Rd H a (.dK xs) ∧ RpK K H A vs xs ∧ vs.length ≤ sizeLine := by rw [Rp]
theorem rp_dT {vs} {x : V} : Rp K H A (.dT vs) x ↔ ∃ a xs, x = .ref a ∧ ¬ A a ∧ H a = some (.dT xs) ∧ RpT K H A vs xs ∧ vs.length ≤ sizeLine := by rw [Rp]
theorem rpl_nil {xs : List V} : RpL K H A [] xs ↔ xs = [] := by rw [RpL]
theorem rpl_cons {v : Val} {vs : List Val} {xs : List V} : RpL K H A (v :: vs) xs ↔ ∃ x r, xs = x :: r ∧ Rp K H A v x ∧ RpL K H A vs r := by rw [RpL]
theorem rpl_cc {v : Val} {vs : List Val} {x : V} {xs : List V} : RpL K H A (v :: vs) (x :: xs) ↔ Rp K H A v x ∧ RpL K H A vs xs := by
  rw [RpL]; constructor
  · rintro ⟨_, _, e, h1, h2⟩; cases e; exact ⟨h1, h2⟩
  · rintro ⟨h1, h2⟩; exact ⟨_, _, rfl, h1, h2⟩
theorem RpL.length : ∀ {vs : List Val} {xs : List V}, RpL K H A vs xs → xs.length = vs.length
  | [], xs, h => by rw [rpl_nil] at h; subst h; rfl
  | v :: vs, xs, h => by
    rw [rpl_cons] at h; obtain ⟨x, r, rfl, _, h2⟩ := h
    simp [RpL.length h2]
theorem RpL.get : ∀ {vs : List Val} {xs : List V} {i : Nat} {v : Val}, RpL K H A vs xs → vs[i]? = some v → ∃ x, xs[i]? = some x ∧ Rp K H A v x
  | [], xs, i, v, h, e => by simp at e
  | w :: vs, xs, i, v, h, e => by
    rw [rpl_cons] at h; obtain ⟨x, r, rfl, h1, h2⟩ := h
    cases i with
    | zero => simp at e; subst e; exact ⟨x, rfl, h1⟩
    | succ i => simp at e; exact RpL.get (i := i) h2 e |>.imp fun y hy => by simpa using hy
theorem RpL.get' : ∀ {vs : List Val} {xs : List V} {i : Nat} {x : V}, RpL K H A vs xs → xs[i]? = some x → ∃ v, vs[i]? = some v ∧ Rp K H A v x
  | [], xs, i, v, h, e => by rw [rpl_nil] at h; subst h; simp at e
  | w :: vs, xs, i, v, h, e => by
    rw [rpl_cons] at h; obtain ⟨x, r, rfl, h1, h2⟩ := h
    cases i with
    | zero => simp at e; subst e; exact ⟨w, rfl, h1⟩
    | succ i => simp at e; exact RpL.get' (i := i) h2 e |>.imp fun y hy => by simpa using hy
theorem RpL.append : ∀ {vs ws : List Val} {xs ys : List V}, RpL K H A vs xs → RpL K H A ws ys → RpL K H A (vs ++ ws) (xs ++ ys)
  | [], ws, xs, ys, h, q => by rw [rpl_nil] at h; subst h; simpa using q
  | v :: vs, ws, xs, ys, h, q => by
    rw [rpl_cons] at h; obtain ⟨x, r, rfl, h1, h2⟩ := h
    exact rpl_cc.mpr ⟨h1, RpL.append h2 q⟩
theorem RpL.set {w : Val} {y : V} (q : Rp K H A w y) : ∀ {vs : List Val} {xs : List V} (i : Nat), RpL K H A vs xs → RpL K H A (vs.set i w) (xs.set i y)
  | [], xs, i, h => by rw [rpl_nil] at h; subst h; simpa using rpl_nil.mpr rfl
  | v :: vs, xs, i, h => by
    rw [rpl_cons] at h; obtain ⟨x, r, rfl, h1, h2⟩ := h
    cases i with
    | zero => exact rpl_cc.mpr ⟨q, h2⟩
    | succ i => exact rpl_cc.mpr ⟨h1, RpL.set q i h2⟩
theorem RpL.take : ∀ {vs : List Val} {xs : List V} (i : Nat), RpL K H A vs xs → RpL K H A (vs.take i) (xs.take i)
  | [], xs, i, h => by rw [rpl_nil] at h; subst h; simpa using rpl_nil.mpr rfl
  | v :: vs, xs, i, h => by
    rw [rpl_cons] at h; obtain ⟨x, r, rfl, h1, h2⟩ := h
    cases i with
    | zero => simpa using rpl_nil.mpr rfl
    | succ i => exact rpl_cc.mpr ⟨h1, RpL.take i h2⟩
theorem RpL.drop : ∀ {vs : List Val} {xs : List V} (i : Nat), RpL K H A vs xs → RpL K H A (vs.drop i) (xs.drop i)
  | [], xs, i, h => by rw [rpl_nil] at h; subst h; simpa using rpl_nil.mpr rfl
  | v :: vs, xs, i, h => by
    rw [rpl_cons] at h; obtain ⟨x, r, rfl, h1, h2⟩ := h
    cases i with
    | zero => simpa using rpl_cc.mpr ⟨h1, h2⟩
    | succ i => simpa using RpL.drop i h2
theorem RpL.reverse : ∀ {vs : List Val} {xs : List V}, RpL K H A vs xs → RpL K H A vs.reverse xs.reverse
  | [], xs, h => by rw [rpl_nil] at h; subst h; simpa using rpl_nil.mpr rfl
  | v :: vs, xs, h => by
    rw [rpl_cons] at h; obtain ⟨x, r, rfl, h1, h2⟩ := h
    simp only [List.reverse_cons]
    exact RpL.append (RpL.reverse h2) (rpl_cc.mpr ⟨h1, rpl_nil.mpr rfl⟩)
theorem RpL.one {v : Val} {x : V} (h : Rp K H A v x) : RpL K H A [v] [x] := rpl_cc.mpr ⟨h, rpl_nil.mpr rfl⟩
theorem RpL.nil : RpL K H A [] [] := rpl_nil.mpr rfl
end

/-! ### what a name holds -/
inductive Slot where
  | emp | frz (v : Val) | own (v : Val)
  deriving Inhabited
abbrev EnvD := List Slot

inductive Res (α : Type) where
  | ok (a : α) | exc (c : Str) (p : Option (Str × Val)) | bad
  deriving Inhabited
@[inline] def Res.bind {α β : Type} : Res α → (α → Res β) → Res β
  | .ok a, f => f a
  | .exc c p, _ => .exc c p
  | .bad, _ => .bad
instance : Monad Res where
  pure := .ok
  bind := Res.bind
@[simp] theorem res_ok_bind {α β : Type} (a : α) (f : α → Res β) : (Res.ok a >>= f) = f a := rfl
@[simp] theorem res_exc_bind {α β : Type} (c p) (f : α → Res β) : ((Res.exc c p : Res α) >>= f) = .exc c p := rfl
@[simp] theorem res_bad_bind {α β : Type} (f : α → Res β) : ((Res.bad : Res α) >>= f) = .bad := rfl
@[simp] theorem res_pure {α : Type} (a : α) : (pure a : Res α) = .ok a := rfl

/-- the content of a container that is ours -/
def OwnAt (K : PySem.W.Frag) (H : Hp) (A : AP) (a : Addr) : Val → Prop
  | .lst vs => ∃ xs, H a = some (.lst xs) ∧ RpL K H A vs xs ∧ vs.length ≤ sizeLine
  | .dK kvs => ∃ xs, H a = some (.dK xs) ∧ RpK K H A kvs xs ∧ kvs.length ≤ sizeLine
  | .dT kvs => ∃ xs, H a = some (.dT xs) ∧ RpT K H A kvs xs ∧ kvs.length ≤ sizeLine
  | _ => False

abbrev or' (P M : AP) : AP := fun a => P a ∨ M a
def SlotOk (K : PySem.W.Frag) (H : Hp) (P M : AP) (σ : L2.St) (i : Nat) : Slot → Prop
  | .emp => True
  | .frz v => ∃ x, σ[i]? = some (some x) ∧ Rp K H (or' P M) v x
  | .own v => ∃ a, σ[i]? = some (some (.ref a)) ∧ M a ∧ OwnAt K H (or' P M) a v

structure RelEnv (K : PySem.W.Frag) (H : Hp) (P M : AP) (σ : L2.St) (env : EnvD) : Prop where
  len : env.length = σ.length
  slot : ∀ (i : Nat) (s : Slot), env[i]? = some s → SlotOk K H P M σ i s
  one : ∀ (i j : Nat) (a : Addr) (v w : Val), env[i]? = some (.own v) → env[j]? = some (.own w) → σ[i]? = some (some (.ref a)) → σ[j]? = some (some (.ref a)) → i = j
  mal : ∀ a, M a → H a ≠ none
  pal : ∀ a, P a → H a ≠ none
  pm : ∀ a, P a → M a → False

structure Ext (M : AP) (H : Hp) (M' : AP) (H' : Hp) : Prop where
  keep : ∀ a o, H a = some o → ¬ M a → H' a = some o
  mem : ∀ a, M' a → M a ∨ H a = none
  live : ∀ a, H a ≠ none → H' a ≠ none

section
variable {K : PySem.W.Frag} {H H1 H2 H' : Hp} {P M M1 M2 M' : AP} {σ : L2.St} {env env' : EnvD}
theorem Ext.refl : Ext M H M H := ⟨fun _ _ h _ => h, fun _ h => .inl h, fun _ h => h⟩
theorem Ext.trans (a : Ext M H M1 H1) (b : Ext M1 H1 M2 H2) : Ext M H M2 H2 where
  keep := fun c o h n => b.keep c o (a.keep c o h n) fun m => (a.mem c m).elim n fun z => by rw [h] at z; cases z
  mem := fun c m => (b.mem c m).elim (a.mem c) fun z => .inr (by
    cases q : H c with
    | none => rfl
    | some o => exact absurd z (a.live c (by rw [q]; simp)))
  live := fun c h => b.live c (a.live c h)
theorem Ext.stay (e : Ext M H M' H') (pal : ∀ a, P a → H a ≠ none) : Stay H (or' P M) H' (or' P M') := fun a o h n =>
  ⟨e.keep a o h fun m => n (.inr m), fun q => q.elim (fun p => n (.inl p)) fun m => (e.mem a m).elim (fun m => n (.inr m)) fun z => by rw [h] at z; cases z⟩
/-- fewer of ours -/
theorem Ext.less (h : ∀ a, M' a → M a) : Ext M H M' H := ⟨fun _ _ h _ => h, fun a m => .inl (h a m), fun _ h => h⟩
theorem Stay.less {A A' : AP} (h : ∀ a, A' a → A a) : Stay H A H A' := fun a o e n => ⟨e, fun q => n (h a q)⟩
/-- all that is tracked stays -/
theorem Ext.same (s : ∀ a o, H a = some o → H' a = some o) (m : ∀ a, M' a → M a ∨ H a = none) : Ext M H M' H' :=
  ⟨fun a o h _ => s a o h, m, fun a h => by
    cases q : H a with
    | none => exact absurd q h
    | some o => rw [s a o q]; simp⟩
theorem same_upd {p : Addr} {o : HO} (h : H p = none) : ∀ a u, H a = some u → upd H p o a = some u := fun a u e => by
  rw [upd_ne (ne_of_none e h)]; exact e
theorem Ext.new {p : Addr} {o : HO} (h : H p = none) : Ext M H M (upd H p o) := Ext.same (same_upd h) fun _ m => .inl m
theorem OwnAt.stay {A A' : AP} {a : Addr} (s : Stay H A H' A') (e : H' a = H a) : ∀ {v : Val}, OwnAt K H A a v → OwnAt K H' A' a v
  | .lst vs, ⟨xs, h, r, z⟩ => ⟨xs, e.trans h, RpL.stay s _ _ r, z⟩
  | .dK vs, ⟨xs, h, r, z⟩ => ⟨xs, e.trans h, RpK.stay s _ _ r, z⟩
  | .dT vs, ⟨xs, h, r, z⟩ => ⟨xs, e.trans h, RpT.stay s _ _ r, z⟩
theorem OwnAt.ne {A : AP} {a : Addr} : ∀ {v : Val}, OwnAt K H A a v → H a ≠ none
  | .lst vs, ⟨xs, h, r⟩ => by rw [h]; simp
  | .dK vs, ⟨xs, h, r⟩ => by rw [h]; simp
  | .dT vs, ⟨xs, h, r⟩ => by rw [h]; simp
/-- a container that is given up -/
theorem OwnAt.rp {A : AP} {a : Addr} (n : ¬ A a) : ∀ {v : Val}, OwnAt K H A a v → Rp K H A v (.ref a)
  | .lst vs, ⟨xs, h, r⟩ => rp_lst.mpr ⟨a, xs, rfl, n, h, r⟩
  | .dK vs, ⟨xs, h, r⟩ => rp_dK.mpr ⟨a, xs, rfl, n, .inl h, r⟩
  | .dT vs, ⟨xs, h, r⟩ => rp_dT.mpr ⟨a, xs, rfl, n, h, r⟩
/-- the names, where nothing of ours was written -/
theorem RelEnv.same (R : RelEnv K H P M σ env) (s : ∀ a o, H a = some o → H' a = some o) (m : ∀ a, M a → M' a) (x : Ext M H M' H') (mal : ∀ a, M' a → H' a ≠ none) : RelEnv K H' P M' σ env where
  len := R.len
  slot := fun i t e => by
    have q := R.slot i t e
    cases t with
    | emp => trivial
    | frz v => obtain ⟨x', e', r⟩ := q; exact ⟨x', e', Rp.stay (x.stay R.pal) _ _ r⟩
    | own v =>
      obtain ⟨a, e', ma, r⟩ := q
      have hn := r.ne
      cases ha : H a with
      | none => exact absurd ha hn
      | some o => exact ⟨a, e', m a ma, r.stay (x.stay R.pal) (by rw [s a o ha, ha])⟩
  one := R.one
  mal := mal
  pal := fun a p => x.live a (R.pal a p)
  pm := fun a p m' => (x.mem a m').elim (R.pm a p) (R.pal a p)
end
end PV

namespace PV
open PySem PySem.Spec PyProof.Rows L2

/-- a result: a datum at x; ours alone (o = true), or shared -/
def RpR (K : PySem.W.Frag) (H : Hp) (P M : AP) (σ : L2.St) (env : EnvD) (v : Val) (o : Bool) (x : V) : Prop :=
  match o with
  | true => ∃ a, x = .ref a ∧ M a ∧ OwnAt K H (or' P M) a v ∧ ∀ (i : Nat) (w : Val), env[i]? = some (.own w) → σ[i]? ≠ some (some (.ref a))
  | false => Rp K H (or' P M) v x
/-- an exception of the class that the module's name c holds -/
def XOk (K : PySem.W.Frag) (mg : Str → Option Value) (H : Hp) (A : AP) (c : Str) (p : Option (Str × Val)) (cls : Value) (dd : Option Addr) : Prop :=
  ∃ C, mg c = some (.ref C) ∧ cls = .ref C ∧ match p with
    | none => dd = none
    | some (f, v) => ∃ d x, dd = some d ∧ H d = some (.xd [(f, x)]) ∧ ¬ A d ∧ Rp K H A v x
end PV
namespace PV
open PySem PySem.Spec PyProof.Rows L2
/-- the fixed things of a def's body -/
structure Cfg where
  K : PySem.W.Frag
  mg : Str → Option Value
  P : AP
  E : XK
abbrev ER := Val × Bool × EnvD
abbrev ED := EnvD → Res ER
/-- what a wish asks of a result that was reckoned at (M, H) -/
def Post (G : Cfg) {α : Type} (M : AP) (H : Hp) (ok : α → AP → Hp → Prop) : Res α → Prop
  | .ok a => ∀ M' H', Ext M H M' H' → ok a M' H'
  | .exc c p => ∀ cls dd M' H', Ext M H M' H' → XOk G.K G.mg H' (or' G.P M') c p cls dd → G.E cls dd H'
  | .bad => False
theorem Post.mono {G : Cfg} {α : Type} {M M1 : AP} {H H1 : Hp} {ok : α → AP → Hp → Prop} {r : Res α} (h : Post G M H ok r) (e : Ext M H M1 H1) : Post G M1 H1 ok r := by
  cases r with
  | ok a => exact fun M' H' e' => h M' H' (e.trans e')
  | exc c p => exact fun cls dd M' H' e' x => h cls dd M' H' (e.trans e') x
  | bad => exact h
def okE (G : Cfg) (σ : L2.St) (Q : VK) : ER → AP → Hp → Prop := fun r M H =>
  RelEnv G.K H G.P M σ r.2.2 → ∀ x, RpR G.K H G.P M σ r.2.2 r.1 r.2.1 x → Q x H
def tE (G : Cfg) (d : ED) : TE := fun σ H Q => ∃ M env, RelEnv G.K H G.P M σ env ∧ Post G M H (okE G σ Q) (d env)

section
variable {G : Cfg} {M M' : AP} {H H' : Hp} {σ : L2.St} {env env' : EnvD} {Q : VK} {v : Val} {o : Bool} {x : V}
/-- what is ours is given up -/
theorem RpR.give (R : RelEnv G.K H G.P M σ env) (r : RpR G.K H G.P M σ env v o x) : ∃ M', Ext M H M' H ∧ RelEnv G.K H G.P M' σ env ∧ Rp G.K H (or' G.P M') v x := by
  cases o with
  | false => exact ⟨M, .refl, R, r⟩
  | true =>
    obtain ⟨a, rfl, ma, ow, no⟩ := r
    have sub : ∀ b, (M b ∧ b ≠ a) → M b := fun b h => h.1
    have st : Stay H (or' G.P M) H (or' G.P (fun b => M b ∧ b ≠ a)) := Stay.less fun b q => q.elim .inl fun m => .inr m.1
    refine ⟨fun b => M b ∧ b ≠ a, Ext.less sub, ⟨R.len, fun i t e => ?_, R.one, fun b m => R.mal b m.1, R.pal, fun b p m => R.pm b p m.1⟩, ?_⟩
    · have q := R.slot i t e
      cases t with
      | emp => trivial
      | frz w => obtain ⟨y, e', r⟩ := q; exact ⟨y, e', Rp.stay st _ _ r⟩
      | own w =>
        obtain ⟨b, e', mb, r⟩ := q
        refine ⟨b, e', ⟨mb, fun z => ?_⟩, r.stay st rfl⟩
        subst z
        exact no i w e e'
    · have := ow.stay (A' := or' G.P (fun b => M b ∧ b ≠ a)) st rfl
      exact this.rp fun q => q.elim (fun p => R.pm a p ma) fun m => m.2 rfl

theorem Post.bindE {α : Type} {ok : α → AP → Hp → Prop} {f : ER → Res α} {d : ED} {B : VK} (R : RelEnv G.K H G.P M σ env) (h : Post G M H ok (d env >>= f))
    (k : ∀ v o env' x M' H', Ext M H M' H' → RelEnv G.K H' G.P M' σ env' → RpR G.K H' G.P M' σ env' v o x → Post G M' H' ok (f (v, o, env')) → B x H') : tE G d σ H B := by
  refine ⟨M, env, R, ?_⟩
  cases q : d env with
  | ok a =>
    obtain ⟨v, o, env'⟩ := a
    rw [q] at h
    exact fun M' H' e R' x r => k v o env' x M' H' e R' r (Post.mono (r := f (v, o, env')) h e)
  | exc c p => rw [q] at h; exact h
  | bad => rw [q] at h; exact h
/-- .. where the value is taken as shared -/
theorem Post.bindF {α : Type} {ok : α → AP → Hp → Prop} {f : ER → Res α} {d : ED} {B : VK} (R : RelEnv G.K H G.P M σ env) (h : Post G M H ok (d env >>= f))
    (k : ∀ v o env' x M' H', Ext M H M' H' → RelEnv G.K H' G.P M' σ env' → Rp G.K H' (or' G.P M') v x → Post G M' H' ok (f (v, o, env')) → B x H') : tE G d σ H B :=
  Post.bindE R h fun v o env' x M' H' e R' r p => by
    obtain ⟨M2, e2, R2, r2⟩ := r.give R'
    exact k v o env' x M2 H' (e.trans e2) R2 r2 (p.mono e2)
end

theorem _root_.L2.PE.pv {X : Cx} {e : Expr} {t t' : TE} (h : PE X e t) (w : ∀ σ H Q, t' σ H Q → t σ H Q) : PE X e t' := ⟨fun pins s σ H Q I q => h.run pins s σ H Q I (w σ H Q q)⟩
theorem _root_.L2.PT.pv {X : Cx} {e : Expr} {t t' : TT} (h : PT X e t) (w : ∀ σ H Q, t' σ H Q → t σ H Q) : PT X e t' := ⟨fun pins s σ H Q I q => h.run pins s σ H Q I (w σ H Q q)⟩
theorem _root_.L2.PW.pv {X : Cx} {e : Expr} {t t' : TT} (h : PW X e t) (w : ∀ σ H Q, t' σ H Q → t σ H Q) : PW X e t' := ⟨fun wh pins s σ H Q I q => h.run wh pins s σ H Q I (w σ H Q q)⟩
theorem _root_.L2.PA.pv {X : Cx} {e : List Expr} {t t' : TA} (h : PA X e t) (w : ∀ σ H Q, t' σ H Q → t σ H Q) : PA X e t' := ⟨fun pos pins s σ H Q I q => h.run pos pins s σ H Q I (w σ H Q q)⟩
theorem _root_.L2.PS.pv {X : Cx} {e : Stmt} {t t' : TS} (h : PS X e t) (w : ∀ D σ H, t' D σ H → t D σ H) : PS X e t' := ⟨fun pins s σ H D I q => h.run pins s σ H D I (w D σ H q)⟩
theorem _root_.L2.PSs.pv {X : Cx} {e : List Stmt} {t t' : TS} (h : PSs X e t) (w : ∀ D σ H, t' D σ H → t D σ H) : PSs X e t' := ⟨fun pins s σ H D I q => h.run pins s σ H D I (w D σ H q)⟩
theorem _root_.L2.PI.pv {X : Cx} {tg e : Expr} {t t' : TI} (h : PI X tg e t) (w : ∀ σ H Q, t' σ H Q → t σ H Q) : PI X tg e t' := ⟨fun pins s σ H Q I q => h.run pins s σ H Q I (w σ H Q q)⟩

/-! ### names and constants -/
section
variable {X : Cx} {G : Cfg}
/-- a name that is taken: what is ours is shared from now on -/
def dVar (i : Nat) : ED := fun env => match env[i]? with
  | some (.frz v) => .ok (v, false, env)
  | some (.own v) => .ok (v, false, env.set i (.frz v))
  | _ => .bad
theorem RelEnv.set {K : PySem.W.Frag} {H : Hp} {P M : AP} {σ : L2.St} {env : EnvD} {i : Nat} {t : Slot} (R : RelEnv K H P M σ env) (no : ∀ v, t ≠ .own v) (h : SlotOk K H P M σ i t) : RelEnv K H P M σ (env.set i t) := by
  refine ⟨by rw [List.length_set]; exact R.len, fun j u e => ?_, fun j k a v w e1 e2 e3 e4 => ?_, R.mal, R.pal, R.pm⟩
  · by_cases hj : i = j
    · subst hj
      by_cases hl : i < env.length
      · rw [List.getElem?_set_self hl] at e; cases e; exact h
      · rw [List.getElem?_eq_none (by simpa using hl)] at e; cases e
    · rw [List.getElem?_set_ne hj] at e; exact R.slot j u e
  · have go : ∀ (j : Nat) (v : Val), (env.set i t)[j]? = some (.own v) → env[j]? = some (.own v) := fun j v e => by
      by_cases hj : i = j
      · subst hj
        by_cases hl : i < env.length
        · rw [List.getElem?_set_self hl] at e; exact absurd (Option.some.inj e) (no v)
        · rw [List.getElem?_eq_none (by simpa using hl)] at e; cases e
      · rw [List.getElem?_set_ne hj] at e; exact e
    exact R.one j k a v w (go j v e1) (go k w e2) e3 e4
/-- a name's container is given up -/
theorem RelEnv.giveSlot {K : PySem.W.Frag} {H : Hp} {P M : AP} {σ : L2.St} {env : EnvD} {i : Nat} {v : Val} (R : RelEnv K H P M σ env) (h : env[i]? = some (.own v)) :
    ∃ a M', σ[i]? = some (some (.ref a)) ∧ Ext M H M' H ∧ RelEnv K H P M' σ (env.set i (.frz v)) ∧ Rp K H (or' P M') v (.ref a) := by
  obtain ⟨a, ea, ma, ow⟩ := R.slot i _ h
  have st : Stay H (or' P M) H (or' P (fun b => M b ∧ b ≠ a)) := Stay.less fun b q => q.elim .inl fun m => .inr m.1
  have rv : Rp K H (or' P (fun b => M b ∧ b ≠ a)) v (.ref a) := (ow.stay st rfl).rp fun q => q.elim (fun p => R.pm a p ma) fun m => m.2 rfl
  have il : i < env.length := (List.getElem?_eq_some_iff.mp h).1
  refine ⟨a, fun b => M b ∧ b ≠ a, ea, Ext.less fun b m => m.1, ⟨by rw [List.length_set]; exact R.len, fun j u e => ?_, fun j k b w w' e1 e2 e3 e4 => ?_, fun b m => R.mal b m.1, R.pal, fun b p m => R.pm b p m.1⟩, rv⟩
  · by_cases hj : i = j
    · subst hj
      rw [List.getElem?_set_self il] at e; cases e
      exact ⟨_, ea, rv⟩
    · rw [List.getElem?_set_ne hj] at e
      have q := R.slot j u e
      cases u with
      | emp => trivial
      | frz w => obtain ⟨y, e', r⟩ := q; exact ⟨y, e', Rp.stay st _ _ r⟩
      | own w =>
        obtain ⟨b, e', mb, r⟩ := q
        refine ⟨b, e', ⟨mb, fun z => ?_⟩, r.stay st rfl⟩
        subst z
        exact hj (R.one i j b v w h e ea e')
  · have go : ∀ (j : Nat) (v' : Val), (env.set i (Slot.frz v))[j]? = some (.own v') → env[j]? = some (.own v') := fun j v' e => by
      by_cases hj : i = j
      · subst hj; rw [List.getElem?_set_self il] at e; cases e
      · rw [List.getElem?_set_ne hj] at e; exact e
    exact R.one j k b w w' (go j w e1) (go k w' e2) e3 e4
theorem se_var {i : Nat} {x : Str} {pos : Pos} (hN : X.N[i]? = some x) (hv : Vis X.env.scope x) (hd : (x == ("__debug__" : Str)) = false) (hcd : (x == ("__classdict__" : Str)) = false) : PE X (.Name x pos) (tE G (dVar i)) := by
  refine (pe_var hN hv hd hcd).pv fun σ H Q h => ?_
  obtain ⟨M, env, R, p⟩ := h
  unfold dVar at p
  cases q : env[i]? with
  | none => rw [q] at p; exact p.elim
  | some t =>
    rw [q] at p
    cases t with
    | emp => exact p.elim
    | frz v =>
      obtain ⟨x, e, r⟩ := R.slot i _ q
      exact ⟨x, e, p M H .refl R x r⟩
    | own v =>
      obtain ⟨a, M', ea, ex, R', r⟩ := R.giveSlot q
      exact ⟨_, ea, p M' H ex R' _ r⟩
/-- a constant -/
def dC (v : Val) : ED := fun env => .ok (v, false, env)
theorem se_c {e : Expr} {v : Val} {x : V} (h : PE X e (tC x)) (hv : ∀ H A, Rp G.K H A v x) : PE X e (tE G (dC v)) :=
  h.pv fun σ H Q ⟨M, env, R, p⟩ => p M H .refl R x (hv _ _)
theorem se_int {i j pos} : PE X (.Constant (.int i) j pos) (tE G (dC (.int i))) := se_c pe_int fun _ _ => rp_int.mpr rfl
theorem se_bl {i j pos} : PE X (.Constant (.bool i) j pos) (tE G (dC (.bl i))) := se_c pe_bl fun _ _ => rp_bl.mpr rfl
theorem se_str {i j pos} : PE X (.Constant (.str i) j pos) (tE G (dC (.str i))) := se_c pe_str fun _ _ => rp_str.mpr rfl
theorem se_non {j pos} : PE X (.Constant .none j pos) (tE G (dC .non)) := se_c pe_non fun _ _ => rp_non.mpr rfl
end
end PV

namespace PV
open PySem PySem.Spec PyProof.Rows L2
open PySem.W (dataLt alike alikeAll lt_data gt_data le_data ge_data AlikeAll minD maxD)

/-- a new result, all that was tracked as it was -/
def NewR (K : PySem.W.Frag) (H H' : Hp) (A : AP) (u : Val) (o : Bool) (z : V) : Prop :=
  match o with
  | false => Rp K H' A u z
  | true => ∃ p, z = .ref p ∧ H p = none ∧ OwnAt K H' (or' A (· = p)) p u

section
variable {G : Cfg} {M M' : AP} {H H' : Hp} {σ : L2.St} {env env' : EnvD} {Q : VK} {u v : Val} {o : Bool} {x z : V}
theorem or_assoc {P M N : AP} : or' (or' P M) N = or' P (or' M N) := by
  funext a; simp only [or', eq_iff_iff]; exact ⟨fun h => h.elim (fun h => h.elim .inl fun m => .inr (.inl m)) fun n => .inr (.inr n), fun h => h.elim (fun p => .inl (.inl p)) fun h => h.elim (fun m => .inl (.inr m)) .inr⟩
theorem fin_new (R : RelEnv G.K H G.P M σ env) (h : Post G M H (okE G σ Q) (.ok (u, o, env))) (same : ∀ a t, H a = some t → H' a = some t) (n : NewR G.K H H' (or' G.P M) u o z) : Q z H' := by
  cases o with
  | false =>
    have e : Ext M H M H' := Ext.same same fun _ m => .inl m
    exact h M H' e (R.same same (fun _ m => m) e fun a m => e.live a (R.mal a m)) z n
  | true =>
    obtain ⟨p, rfl, hp, ow⟩ := n
    have e : Ext M H (or' M (· = p)) H' := Ext.same same fun a m => m.elim .inl fun e => .inr (e ▸ hp)
    have R' : RelEnv G.K H' G.P (or' M (· = p)) σ env := R.same same (fun _ m => .inl m) e fun a m => m.elim (fun m => e.live a (R.mal a m)) fun q => by subst q; exact ow.ne
    refine h _ H' e R' _ ⟨p, rfl, .inr rfl, by rw [← or_assoc]; exact ow, fun i w ei eσ => ?_⟩
    obtain ⟨a, ea, ma, _⟩ := R.slot i _ ei
    rw [ea] at eσ
    have : a = p := by simpa using eσ
    subst this
    exact R.mal a ma hp
theorem fin_same (R : RelEnv G.K H G.P M σ env) (h : Post G M H (okE G σ Q) (.ok (u, false, env))) (n : Rp G.K H (or' G.P M) u z) : Q z H := fin_new R h (fun _ _ e => e) n
end

/-- what a rule of values asks is answered by f -/
def Ans (K : PySem.W.Frag) (H : Hp) (A : AP) (r : Hp → VK → Prop) : Res (Val × Bool) → Prop
  | .ok (u, o) => ∀ Q, (∀ z H', (∀ a t, H a = some t → H' a = some t) → NewR K H H' A u o z → Q z H') → r H Q
  | .exc _ _ => False
  | .bad => True
def OpS (K : PySem.W.Frag) (r : R2) (f : Val → Val → Res (Val × Bool)) : Prop :=
  ∀ H A v w x y, (∀ a, A a → H a ≠ none) → Rp K H A v x → Rp K H A w y → Ans K H A (r x y) (f v w)
def OpS1 (K : PySem.W.Frag) (r : V → Hp → VK → Prop) (f : Val → Res (Val × Bool)) : Prop :=
  ∀ H A v x, (∀ a, A a → H a ≠ none) → Rp K H A v x → Ans K H A (r x) (f v)
def OpSL (K : PySem.W.Frag) (r : List V → Hp → VK → Prop) (f : List Val → Res (Val × Bool)) : Prop :=
  ∀ H A v x, (∀ a, A a → H a ≠ none) → RpL K H A v x → Ans K H A (r x) (f v)

theorem RelEnv.al {K : PySem.W.Frag} {H : Hp} {P M : AP} {σ : L2.St} {env : EnvD} (R : RelEnv K H P M σ env) : ∀ a, or' P M a → H a ≠ none := fun a h => h.elim (R.pal a) (R.mal a)
section
variable {G : Cfg} {M M' : AP} {H H' : Hp} {σ : L2.St} {env env' : EnvD} {Q : VK}
theorem fin_ans {r : Hp → VK → Prop} {f : Res (Val × Bool)} (R : RelEnv G.K H G.P M σ env) (a : Ans G.K H (or' G.P M) r f) (p : Post G M H (okE G σ Q) (f >>= fun z => .ok (z.1, z.2, env))) : r H Q := by
  cases f with
  | ok z =>
    obtain ⟨u, o⟩ := z
    exact a Q fun z H' s n => fin_new R p s n
  | exc c q => exact a.elim
  | bad => exact p.elim
end
def dBin (f : Val → Val → Res (Val × Bool)) (da db : ED) : ED := fun env => da env >>= fun a => db a.2.2 >>= fun b => f a.1 b.1 >>= fun z => .ok (z.1, z.2, b.2.2)
def dUn (f : Val → Res (Val × Bool)) (da : ED) : ED := fun env => da env >>= fun a => f a.1 >>= fun z => .ok (z.1, z.2, a.2.2)
section
variable {X : Cx} {G : Cfg} {a b : Expr} {da db : ED} {pos : Pos}
theorem tE_bin {r : R2} {f : Val → Val → Res (Val × Bool)} (hs : OpS G.K r f) {σ : L2.St} {H : Hp} {Q : VK} (h : tE G (dBin f da db) σ H Q) : tOp r (tE G da) (tE G db) σ H Q := by
  obtain ⟨M, env, R, p⟩ := h
  refine Post.bindF R p fun v o e1 x M1 H1 x1 R1 r1 p1 => ?_
  refine Post.bindF R1 p1 fun w o2 e2 y M2 H2 x2 R2 r2 p2 => ?_
  have r1' := Rp.stay (x2.stay R1.pal) _ _ r1
  exact fin_ans R2 (hs H2 _ v w x y R2.al r1' r2) p2
theorem tE_un {r : V → Hp → VK → Prop} {f : Val → Res (Val × Bool)} (hs : OpS1 G.K r f) {σ : L2.St} {H : Hp} {Q : VK} (h : tE G (dUn f da) σ H Q) : tUn r (tE G da) σ H Q := by
  obtain ⟨M, env, R, p⟩ := h
  refine Post.bindF R p fun v o e1 x M1 H1 x1 R1 r1 p1 => ?_
  exact fin_ans R1 (hs H1 _ v x R1.al r1) p1
theorem se_bin {op : Operator} {r : R2} {f : Val → Val → Res (Val × Bool)} (ho : OpR X (binaryOp op) r) (hs : OpS G.K r f) (ha : PE X a (tE G da)) (hb : PE X b (tE G db)) : PE X (.BinOp a op b pos) (tE G (dBin f da db)) :=
  (pe_op ho ha hb).pv fun σ H Q h => tE_bin hs h
theorem se_un {op : UnaryOp} {r : V → Hp → VK → Prop} {f : Val → Res (Val × Bool)} (ho : UnR X (unaryOp op) r) (hs : OpS1 G.K r f) (ha : PE X a (tE G da)) : PE X (.UnaryOp op a pos) (tE G (dUn f da)) :=
  (pe_un ho ha).pv fun σ H Q h => tE_un hs h
theorem se_cmp {op : CmpOp} {r : R2} {f : Val → Val → Res (Val × Bool)} (ho : OpR X (compareOp op) r) (hs : OpS G.K r f) (ha : PE X a (tE G da)) (hb : PE X b (tE G db)) (hm : behindInMarks op b = false) : PE X (.Compare a [op] [b] pos) (tE G (dBin f da db)) :=
  (pe_cmpR ho ha hb hm).pv fun σ H Q h => tE_bin hs h
end

/-! ### operators on values -/
def OpR.or {X : Cx} {f : Value → Value → Sem Value} {r r' : R2} (h : OpR X f r) (h' : OpR X f r') : OpR X f (fun x y H Q => r x y H Q ∨ r' x y H Q) :=
  fun pins s σ H x y v u Q I rx ry q => q.elim (h pins s σ H x y v u Q I rx ry) (h' pins s σ H x y v u Q I rx ry)
theorem OpR.never {X : Cx} {f : Value → Value → Sem Value} : OpR X f (fun _ _ _ _ => False) := fun _ _ _ _ _ _ _ _ _ _ _ _ q => q.elim

def b2 (b : Bool) : Int := if b then 1 else 0
def mulOk (i j : Int) : Bool := decide (i.natAbs < 2 ^ 64) || decide (j.natAbs < 2 ^ 64)
def oAdd : Val → Val → Res (Val × Bool)
  | .int i, .int j => .ok (.int (i + j), false)
  | .int i, .bl k => .ok (.int (i + b2 k), false)
  | .str s, .str t => if s.length + t.length ≤ sizeLine then .ok (.str (s ++ t), false) else .bad
  | .tup xs, .tup ys => if xs.length + ys.length ≤ sizeLine then .ok (.tup (xs ++ ys), false) else .bad
  | .lst xs, .lst ys => if xs.length + ys.length ≤ sizeLine then .ok (.lst (xs ++ ys), true) else .bad
  | _, _ => .bad
def oSub : Val → Val → Res (Val × Bool)
  | .int i, .int j => .ok (.int (i - j), false)
  | _, _ => .bad
def oMul : Val → Val → Res (Val × Bool)
  | .int i, .int j => if mulOk i j then .ok (.int (i * j), false) else .bad
  | .lst xs, .int k => if k.natAbs < 2 ^ 63 ∧ xs.length * k.toNat ≤ sizeLine then .ok (.lst (List.replicate k.toNat xs).flatten, true) else .bad
  | .tup xs, .int k => if k.natAbs ≤ 1000 ∧ xs.length ≤ 1000 then .ok (.tup (List.replicate k.toNat xs).flatten, false) else .bad
  | _, _ => .bad
def oDiv : Val → Val → Res (Val × Bool)
  | .int i, .int j => if 0 < j ∧ j.natAbs < 1073741824 then .ok (.int (i / j), false) else .bad
  | _, _ => .bad
def oMod : Val → Val → Res (Val × Bool)
  | .int i, .int j => if 0 < j then .ok (.int (i % j), false) else .bad
  | _, _ => .bad
def oPow : Val → Val → Res (Val × Bool)
  | .int i, .int j => if 0 ≤ j ∧ j.natAbs ≤ 1000000 ∧ i.natAbs < 2 ^ 64 then .ok (.int (i ^ j.toNat), false) else .bad
  | _, _ => .bad
def oShl : Val → Val → Res (Val × Bool)
  | .int i, .int j => if 0 ≤ j ∧ j.natAbs ≤ 1000000 ∧ i.natAbs < 2 ^ 64 then .ok (.int (i * 2 ^ j.toNat), false) else .bad
  | _, _ => .bad
def oAnd : Val → Val → Res (Val × Bool)
  | .int i, .int j => .ok (.int (Builtin.bitAnd i j), false)
  | _, _ => .bad
def oNeg : Val → Res (Val × Bool)
  | .int i => .ok (.int (-i), false)
  | _ => .bad

section
variable {X : Cx} {K : PySem.W.Frag}
abbrev rAddV (K : PySem.W.Frag) : R2 := fun x y H Q => (rI0 fun i j => .int (i + j)) x y H Q ∨ (∃ i k, x = .int i ∧ y = .bl k ∧ Q (.int (i + b2i k)) H) ∨ (∃ i j, x = .str i ∧ y = .str j ∧ i.length + j.length ≤ sizeLine ∧ Q (.str (i ++ j)) H) ∨ rCatA K x y H Q ∨ rCat x y H Q
theorem op_addV : OpR X (binaryOp .Add) (rAddV X.K) := op_add.or (op_add_ib.or (op_add_str.or (op_catA.or op_cat)))
theorem bad_ans {H : Hp} {A : AP} {r : Hp → VK → Prop} : Ans K H A r .bad := trivial
theorem ans_pure {H : Hp} {A : AP} {r : Hp → VK → Prop} {u : Val} (x : V) (hx : ∀ A, Rp K H A u x) (h : ∀ Q : VK, Q x H → r H Q) : Ans K H A r (.ok (u, false)) := fun Q q => h Q (q x H (fun _ _ e => e) (hx A))
/-- a new tuple -/
theorem new_tup {H : Hp} {A : AP} {p : Addr} {vs : List Val} {xs : List V} (al : ∀ a, A a → H a ≠ none) (hp : H p = none) (r : RpL K H A vs xs) (z : vs.length ≤ sizeLine) : NewR K H (upd H p (.tup xs)) A (.tup vs) false (.ref p) :=
  rp_tup.mpr ⟨p, xs, rfl, fun h => al p h hp, upd_same, RpL.stay (fun a o e n => ⟨same_upd hp a o e, n⟩) _ _ r, z⟩
theorem new_lst {H : Hp} {A : AP} {p : Addr} {vs : List Val} {xs : List V} (hp : H p = none) (r : RpL K H A vs xs) (z : vs.length ≤ sizeLine) : NewR K H (upd H p (.lst xs)) A (.lst vs) true (.ref p) :=
  ⟨p, rfl, hp, xs, upd_same, RpL.stay (fun a o e n => ⟨same_upd hp a o e, fun h => h.elim n fun q => by subst q; rw [hp] at e; cases e⟩) _ _ r, z⟩
/-- a list that stands (not the script) -/
def Std (H : Hp) (a : Addr) (xs : List V) : Prop := H a = some (.lst xs)
theorem s_add : OpS K (rAddV K) oAdd := by
  intro H A v w x y al hv hw
  cases v <;> cases w <;> try exact bad_ans
  case int.int i j => rw [rp_int] at hv hw; subst hv hw; exact ans_pure (.int (i + j)) (fun _ => rp_int.mpr rfl) fun Q q => .inl ⟨i, j, rfl, rfl, q⟩
  case int.bl i k => rw [rp_int] at hv; rw [rp_bl] at hw; subst hv hw; exact ans_pure (.int (i + b2i k)) (fun _ => rp_int.mpr (by cases k <;> rfl)) fun Q q => .inr (.inl ⟨i, k, rfl, rfl, q⟩)
  case str.str i j =>
    rw [rp_str] at hv hw; subst hv hw
    show Ans _ _ _ _ (if i.length + j.length ≤ sizeLine then _ else _)
    split
    · rename_i h; exact ans_pure (.str (i ++ j)) (fun _ => rp_str.mpr rfl) fun Q q => .inr (.inr (.inl ⟨i, j, rfl, rfl, h, q⟩))
    · exact bad_ans
  case tup.tup vs ws =>
    rw [rp_tup] at hv hw
    obtain ⟨a, xs, rfl, na, ha, l1, z1⟩ := hv
    obtain ⟨b, ys, rfl, nb, hb, l2, z2⟩ := hw
    show Ans _ _ _ _ (if vs.length + ws.length ≤ sizeLine then _ else _)
    split
    · rename_i h
      intro Q q
      have e1 := l1.length
      have e2 := l2.length
      refine .inr (.inr (.inr (.inl ⟨a, b, xs, ys, rfl, rfl, SqT.of ha, SqT.of hb, by omega, fun z => ?_, fun q1 q2 => ?_, fun q1 q2 p hp => ?_⟩)))
      · subst z
        have : vs = [] := List.length_eq_zero_iff.mp (by simpa using e1.symm)
        subst this
        exact q _ H (fun _ _ e => e) (rp_tup.mpr ⟨b, ys, rfl, nb, hb, l2, z2⟩)
      · subst q2
        have : ws = [] := List.length_eq_zero_iff.mp (by simpa using e2.symm)
        subst this
        exact q _ H (fun _ _ e => e) (by rw [List.append_nil]; exact rp_tup.mpr ⟨a, xs, rfl, na, ha, l1, z1⟩)
      · exact q _ _ (same_upd hp) (new_tup al hp (l1.append l2) (by rw [List.length_append]; exact h))
    · exact bad_ans
  case lst.lst vs ws =>
    rw [rp_lst] at hv hw
    obtain ⟨a, xs, rfl, na, ha, l1, z1⟩ := hv
    obtain ⟨b, ys, rfl, nb, hb, l2, z2⟩ := hw
    show Ans _ _ _ _ (if vs.length + ws.length ≤ sizeLine then _ else _)
    split
    · rename_i h
      intro Q q
      have e1 := l1.length
      have e2 := l2.length
      exact .inr (.inr (.inr (.inr ⟨a, b, xs, ys, rfl, rfl, ha, hb, by omega, fun p hp => q _ _ (same_upd hp) (new_lst hp (l1.append l2) (by rw [List.length_append]; exact h))⟩)))
    · exact bad_ans
theorem s_sub : OpS K (rI0 fun i j => .int (i - j)) oSub := by
  intro H A v w x y al hv hw
  cases v <;> cases w <;> try exact bad_ans
  case int.int i j => rw [rp_int] at hv hw; subst hv hw; exact ans_pure (.int (i - j)) (fun _ => rp_int.mpr rfl) fun Q q => ⟨i, j, rfl, rfl, q⟩
/-- a tuple times an int, where the tuple is empty or the int is at most one -/
theorem tuple_few (l : Addr) (its : Array Value) (n : Nat) (dd : Option Addr) (sl : Array (Option Value)) {x : Int} (u : Tok) (lo : -1000 ≤ x) (hi : x ≤ 1000) (few : its.isEmpty = true ∨ x ≤ 1) :
    Meets (Builtin.«tuple.__mul__» ⟨[.ref l, .int x u], []⟩) (fun _ R s => s.heap.get? l = some { cls := .type "tuple", dict := dd, data := .seq its n, slots := sl } ∧
      if its.isEmpty = true ∨ x = 1 then R (.ok (.ret (.ref l))) s else R (.ok (.ret (.ref s.heap.objs.size))) { s with heap := s.heap.push { cls := .type "tuple", data := .seq #[] } }) := by
  refine .of_wp fun prog w A R s ⟨hl, post⟩ => ?_
  have asked := AutoSeq1.idx_int
  have fits : (decide (x < -(2 ^ 63)) || decide (x ≥ 2 ^ 63)) = false := by simp only [Bool.or_eq_false_iff, decide_eq_false_iff_not]; omega
  wp_walk using wpAny_loadPart' hl
  refine wpAny_ite_false (by rw [fits]; rfl) ?_
  by_cases c : its.isEmpty = true ∨ x = 1
  · rw [if_pos c] at post
    have c' : (its.isEmpty || x == 1) = true := by simpa using c
    wp_walk using wpAny_loadPart' hl
    exact ⟨_, rfl, post⟩
  · rw [if_neg c] at post
    have c' : (its.isEmpty || x == 1) = false := by simpa using c
    have small : (decide (x ≤ 0) || its.isEmpty) = true := by
      have := not_or.mp c
      simp only [Bool.or_eq_true, decide_eq_true_eq]
      exact .inl (by have := few.resolve_left this.1; omega)
    wp_walk using wpAny_loadPart' hl
    exact ⟨_, rfl, post⟩
/-- a tuple times an int where nothing is gone through -/
def rRepT0 (K : PySem.W.Frag) : R2 := fun x y H Q => ∃ l k xs, x = .ref l ∧ y = .int k ∧ SqT K H l xs ∧ k.natAbs ≤ 1000 ∧ xs.length ≤ 1000 ∧
  (((xs = [] ∨ k = 1) ∧ Q (.ref l) H) ∨ (xs ≠ [] ∧ k ≤ 0 ∧ ∀ p, H p = none → Q (.ref p) (upd H p (.tup []))))
theorem op_repT0 : OpR X (binaryOp .Mult) (rRepT0 X.K) := by
  rintro pins s σ H _ _ v u Q I rx ry ⟨l, k, xs, rfl, rfl, hT, h1, h2, q⟩
  obtain ⟨t, rfl⟩ := ry
  cases (rx : v = .ref l)
  obtain ⟨its, r, ⟨⟨cls, dd, data, sl⟩, ho, hc, n, hd⟩, hs⟩ := I.tuple hT
  cases hc; cases hd
  have len := r.length
  have emp : its.toArray.isEmpty = true ↔ xs = [] := by
    rw [← List.length_eq_zero_iff, len]; simp
  have few : its.toArray.isEmpty = true ∨ k ≤ 1 := by
    rcases q with ⟨c | c, -⟩ | ⟨-, c, -⟩
    · exact .inl (emp.mpr c)
    · exact .inr (by omega)
    · exact .inr (by omega)
  have times := tuple_few l its.toArray n dd sl t (x := k) (by omega) (by omega) few
  have turned := int_rmul_tuple k t l its.toArray n dd sl
  refine wpAny_binaryOp_repeat_ref (U := "int") (by decide) ⟨_, ho, rfl⟩ (fun _ => typeIs_int _ k t) noFill_tuple_mul F.fills_int_mul F.slot_int_rmul repeat_tuple F.slot_int_index.lookup
    (call_meets F.slot_int_rmul (typeIs_int s k t) F.entry_int_rmul (F.args_int_rmul_2 _ _) turned ⟨ho, rfl, ⟨_, ho, rfl⟩, call_meets F.slot_tuple_mul ⟨_, ho, rfl⟩ F.entry_tuple_mul (F.args_tuple_mul_2 _ _) times ⟨ho, ?_⟩⟩)
  split <;> rename_i c <;> rcases q with ⟨c', q⟩ | ⟨c1, c2, q⟩
  · exact ⟨.ref l, H, I, rfl, q⟩
  · exact absurd c (not_or.mpr ⟨fun e => c1 (emp.mp e), by omega⟩)
  · exact absurd (c'.imp emp.mpr id) c
  · have hn := I.hok.fresh (Nat.le_refl _)
    exact ⟨.ref s.heap.objs.size, _, I.laid (t' := s.toks) (o := .tup []) (fun _ _ => Heap.get?_push_of_some _) (Nat.le_refl _) ⟨Nat.zero_le _, [], .nil, IsTup.new _ _⟩, rfl, q _ hn⟩
abbrev rMulV (K : PySem.W.Frag) : R2 := fun x y H Q => (rI CMul fun i j => .int (i * j)) x y H Q ∨ rRep x y H Q ∨ rRepT K x y H Q ∨ rRepT0 K x y H Q
theorem op_mulV : OpR X (binaryOp .Mult) (rMulV X.K) := op_mul.or (op_rep.or (op_repT.or op_repT0))
theorem mulOk_iff {i j : Int} (h : mulOk i j = true) : CMul i j := by
  simp only [mulOk, Bool.or_eq_true, decide_eq_true_eq] at h
  exact h.imp (fun h => by omega) fun h => by omega
theorem rep_len {α : Type} (n : Nat) (xs : List α) : (List.replicate n xs).flatten.length = n * xs.length := by
  rw [List.length_flatten, List.map_replicate, List.sum_replicate_nat]
theorem RpL.rep {H : Hp} {A : AP} {vs : List Val} {xs : List V} (h : RpL K H A vs xs) : ∀ n : Nat, RpL K H A (List.replicate n vs).flatten (List.replicate n xs).flatten
  | 0 => by simpa using RpL.nil
  | n + 1 => by
    simp only [List.replicate_succ, List.flatten_cons]
    exact h.append (RpL.rep h n)
theorem s_mul : OpS K (rMulV K) oMul := by
  intro H A v w x y al hv hw
  cases v <;> cases w <;> try exact bad_ans
  case int.int i j =>
    rw [rp_int] at hv hw; subst hv hw
    show Ans _ _ _ _ (if mulOk i j then _ else _)
    split
    · rename_i h; exact ans_pure (.int (i * j)) (fun _ => rp_int.mpr rfl) fun Q q => .inl ⟨i, j, rfl, rfl, mulOk_iff h, q⟩
    · exact bad_ans
  case lst.int vs k =>
    rw [rp_int] at hw; subst hw
    rw [rp_lst] at hv
    obtain ⟨a, xs, rfl, na, ha, l1, z1⟩ := hv
    show Ans _ _ _ _ (if k.natAbs < 2 ^ 63 ∧ vs.length * k.toNat ≤ sizeLine then _ else _)
    split
    · rename_i h
      exact fun Q q => .inr (.inl ⟨a, k, xs, rfl, rfl, ha, by omega, by omega, by rw [l1.length]; exact h.2, fun p hp => q _ _ (same_upd hp) (new_lst hp (l1.rep _) (by rw [rep_len, Nat.mul_comm]; exact h.2))⟩)
    · exact bad_ans
  case tup.int vs k =>
    rw [rp_int] at hw; subst hw
    rw [rp_tup] at hv
    obtain ⟨a, xs, rfl, na, ha, l1, z1⟩ := hv
    show Ans _ _ _ _ (if k.natAbs ≤ 1000 ∧ vs.length ≤ 1000 then _ else _)
    split
    · rename_i h
      have e1 := l1.length
      by_cases c : xs = [] ∨ k = 1
      · refine fun Q q => .inr (.inr (.inr ⟨a, k, xs, rfl, rfl, SqT.of ha, h.1, by omega, .inl ⟨c, q _ H (fun _ _ e => e) ?_⟩⟩))
        have e : (List.replicate k.toNat vs).flatten = vs := by
          rcases c with c | c
          · subst c
            have : vs = [] := List.length_eq_zero_iff.mp (by simpa using e1.symm)
            subst this; simp
          · subst c; simp
        rw [e]
        exact rp_tup.mpr ⟨a, xs, rfl, na, ha, l1, z1⟩
      · by_cases c2 : 2 ≤ k
        · exact fun Q q => .inr (.inr (.inl ⟨a, k, xs, rfl, rfl, SqT.of ha, fun z => c (.inl z), c2, by omega, by omega, fun p hp => q _ _ (same_upd hp) (new_tup al hp (l1.rep _) (by rw [rep_len, sizeLine_eq]; exact Nat.le_trans (Nat.mul_le_mul (show k.toNat ≤ 1000 by omega) h.2) (by decide)))⟩))
        · refine fun Q q => .inr (.inr (.inr ⟨a, k, xs, rfl, rfl, SqT.of ha, h.1, by omega, .inr ⟨fun z => c (.inl z), by omega, fun p hp => q _ _ (same_upd hp) ?_⟩⟩))
          have e : k.toNat = 0 := by omega
          rw [e]
          exact new_tup al hp RpL.nil (Nat.zero_le _)
    · exact bad_ans
theorem s_div : OpS K (rI CDiv fun i j => .int (i / j)) oDiv := by
  intro H A v w x y al hv hw
  cases v <;> cases w <;> try exact bad_ans
  case int.int i j =>
    rw [rp_int] at hv hw; subst hv hw
    show Ans _ _ _ _ (if 0 < j ∧ j.natAbs < 1073741824 then _ else _)
    split
    · rename_i h; exact ans_pure (.int (i / j)) (fun _ => rp_int.mpr rfl) fun Q q => ⟨i, j, rfl, rfl, ⟨h.1, by omega⟩, q⟩
    · exact bad_ans
theorem s_mod : OpS K (rI (fun _ j => 0 < j) fun i j => .int (i % j)) oMod := by
  intro H A v w x y al hv hw
  cases v <;> cases w <;> try exact bad_ans
  case int.int i j =>
    rw [rp_int] at hv hw; subst hv hw
    show Ans _ _ _ _ (if 0 < j then _ else _)
    split
    · rename_i h; exact ans_pure (.int (i % j)) (fun _ => rp_int.mpr rfl) fun Q q => ⟨i, j, rfl, rfl, h, q⟩
    · exact bad_ans
theorem s_pow : OpS K (rI CPow fun i j => .int (i ^ j.toNat)) oPow := by
  intro H A v w x y al hv hw
  cases v <;> cases w <;> try exact bad_ans
  case int.int i j =>
    rw [rp_int] at hv hw; subst hv hw
    show Ans _ _ _ _ (if 0 ≤ j ∧ j.natAbs ≤ 1000000 ∧ i.natAbs < 2 ^ 64 then _ else _)
    split
    · rename_i h; exact ans_pure (.int (i ^ j.toNat)) (fun _ => rp_int.mpr rfl) fun Q q => ⟨i, j, rfl, rfl, ⟨h.1, by omega, h.2.2⟩, q⟩
    · exact bad_ans
theorem s_shl : OpS K (rI CPow fun i j => .int (i * 2 ^ j.toNat)) oShl := by
  intro H A v w x y al hv hw
  cases v <;> cases w <;> try exact bad_ans
  case int.int i j =>
    rw [rp_int] at hv hw; subst hv hw
    show Ans _ _ _ _ (if 0 ≤ j ∧ j.natAbs ≤ 1000000 ∧ i.natAbs < 2 ^ 64 then _ else _)
    split
    · rename_i h; exact ans_pure (.int (i * 2 ^ j.toNat)) (fun _ => rp_int.mpr rfl) fun Q q => ⟨i, j, rfl, rfl, ⟨h.1, by omega, h.2.2⟩, q⟩
    · exact bad_ans
theorem s_and : OpS K (rI0 fun i j => .int (Builtin.bitAnd i j)) oAnd := by
  intro H A v w x y al hv hw
  cases v <;> cases w <;> try exact bad_ans
  case int.int i j => rw [rp_int] at hv hw; subst hv hw; exact ans_pure (.int (Builtin.bitAnd i j)) (fun _ => rp_int.mpr rfl) fun Q q => ⟨i, j, rfl, rfl, q⟩
theorem s_neg : OpS1 K (rU fun i => .int (-i)) oNeg := by
  intro H A v x al hv
  cases v <;> try exact bad_ans
  case int i => rw [rp_int] at hv; subst hv; exact ans_pure (.int (-i)) (fun _ => rp_int.mpr rfl) fun Q q => ⟨i, rfl, q⟩
end

/-! ### comparisons -/
mutual
def toD : Val → PyData
  | .non => .none
  | .bl b => .bool b
  | .int i => .int i
  | .str s => .str s
  | .tup vs => .tuple (toDs vs)
  | .lst vs => .list (toDs vs)
  | .dK _ => .dict []
  | .dT _ => .dict []
  | .ty _ => .dict []
  | .glo _ => .dict []
  | .scr _ => .dict []
  | .rng _ _ => .dict []
def toDs : List Val → List PyData
  | [] => []
  | v :: vs => toD v :: toDs vs
end
theorem toDs_map : ∀ vs : List Val, toDs vs = vs.map toD
  | [] => by simp [toDs]
  | v :: vs => by simp [toDs, toDs_map vs]
mutual
theorem Rp.dp {K : PySem.W.Frag} {H : Hp} {A : AP} : ∀ (v : Val) (x : V), (toD v).canLay0 = true → Rp K H A v x → Dp K H x (toD v)
  | .non, x, c, h => by rw [rp_non] at h; subst h; rw [toD]; exact .non
  | .bl b, x, c, h => by rw [rp_bl] at h; subst h; rw [toD]; exact .bl b
  | .int i, x, c, h => by rw [rp_int] at h; subst h; rw [toD]; exact .int i
  | .str s, x, c, h => by rw [rp_str] at h; subst h; rw [toD]; exact .str s
  | .tup vs, x, c, h => by
    rw [rp_tup] at h
    obtain ⟨a, xs, rfl, _, ha, l, z⟩ := h
    rw [toD, PyData.canLay0] at c
    rw [toD]
    exact .tup (SqT.of ha) (RpL.dp vs xs c l)
  | .lst vs, x, c, h => by
    rw [rp_lst] at h
    obtain ⟨a, xs, rfl, _, ha, l, z⟩ := h
    rw [toD, PyData.canLay0] at c
    rw [toD]
    exact .lst (SqL.of ha) (RpL.dp vs xs c l)
  | .dK _, x, c, h => by rw [toD, PyData.canLay0] at c; cases c
  | .dT _, x, c, h => by rw [toD, PyData.canLay0] at c; cases c
  | .ty _, x, c, h => by rw [toD, PyData.canLay0] at c; cases c
  | .glo _, x, c, h => by rw [toD, PyData.canLay0] at c; cases c
  | .scr _, x, c, h => by rw [toD, PyData.canLay0] at c; cases c
  | .rng _ _, x, c, h => by rw [toD, PyData.canLay0] at c; cases c
theorem RpL.dp {K : PySem.W.Frag} {H : Hp} {A : AP} : ∀ (vs : List Val) (xs : List V), PyData.canLayAll0 (toDs vs) = true → RpL K H A vs xs → DpAll K H xs (toDs vs)
  | [], xs, c, h => by rw [rpl_nil] at h; subst h; rw [toDs]; exact .nil
  | v :: vs, xs, c, h => by
    rw [rpl_cons] at h
    obtain ⟨x, r, rfl, h1, h2⟩ := h
    rw [toDs, PyData.canLayAll0, Bool.and_eq_true] at c
    rw [toDs]
    exact .cons (Rp.dp v x c.1 h1) (RpL.dp vs r c.2 h2)
end
def okV (v : Val) : Bool := SeqAt.shaped (toD v)
def eqV (v w : Val) : Bool := PyData.eqv (toD v) (toD w)
def ltV (v w : Val) : Bool := dataLt (toD v) (toD w)
def oEq (v w : Val) : Res (Val × Bool) := if okV v && okV w then .ok (.bl (eqV v w), false) else .bad
def oNe (v w : Val) : Res (Val × Bool) := if okV v && okV w then .ok (.bl (!eqV v w), false) else .bad
def cmpOk (v w : Val) : Bool := okV v && okV w && alike (toD v) (toD w) && (match v with | .non => false | _ => true)
def oLt (v w : Val) : Res (Val × Bool) := if cmpOk v w then .ok (.bl (ltV v w), false) else .bad
def oGt (v w : Val) : Res (Val × Bool) := if cmpOk v w then .ok (.bl (ltV w v), false) else .bad
def oLe (v w : Val) : Res (Val × Bool) := if cmpOk v w then .ok (.bl (!ltV w v), false) else .bad
def oGe (v w : Val) : Res (Val × Bool) := if cmpOk v w then .ok (.bl (!ltV v w), false) else .bad
section
variable {X : Cx} {K : PySem.W.Frag}
theorem s_eq : OpS K (rEqD K) oEq := by
  intro H A v w x y al hv hw
  unfold oEq
  split
  · rename_i h
    rw [Bool.and_eq_true] at h
    exact ans_pure _ (fun _ => rp_bl.mpr rfl) fun Q q => ⟨_, _, Rp.dp v x (SeqAt.canLay_of_shaped h.1) hv, Rp.dp w y (SeqAt.canLay_of_shaped h.2) hw, h.1, h.2, q⟩
  · exact bad_ans
theorem s_ne : OpS K (rNeD K) oNe := by
  intro H A v w x y al hv hw
  unfold oNe
  split
  · rename_i h
    rw [Bool.and_eq_true] at h
    exact ans_pure _ (fun _ => rp_bl.mpr rfl) fun Q q => ⟨_, _, Rp.dp v x (SeqAt.canLay_of_shaped h.1) hv, Rp.dp w y (SeqAt.canLay_of_shaped h.2) hw, h.1, h.2, q⟩
  · exact bad_ans
/-- two data in order -/
def rOrd (K : PySem.W.Frag) (g : PyData → PyData → Bool) : R2 := fun x y H Q => ∃ d e, Dp K H x d ∧ Dp K H y e ∧ SeqAt.shaped d = true ∧ SeqAt.shaped e = true ∧ alike d e = true ∧ d ≠ .none ∧ Q (.bl (g d e)) H
theorem op_ord {op : CmpOp} {g : PyData → PyData → Bool} (hu : X.A.units + 64 < cLine)
    (rule : ∀ (s : Shared) (a b : Value) (da db : PyData) (as bs : List Addr) (Q : Value → Shared → Prop), Reads s.heap a da as → Reads s.heap b db bs → alike da db = true → da ≠ .none → X.A.units + min da.depth db.depth < cLine → Q (.bool (g da db)) s → wpAny (model X.prog X.w) X.A (compareOp op a b) Q X.xe s) :
    OpR X (compareOp op) (rOrd X.K g) := by
  intro pins s σ H x y v u Q I rx ry h
  obtain ⟨d, e, hd, he, sd, se, al, nn, q⟩ := h
  obtain ⟨as, r1⟩ := Dp.reads I d x v hd rx
  obtain ⟨bs, r2⟩ := Dp.reads I e y u he ry
  exact rule s v u d e as bs _ r1 r2 al nn (SeqAt.room_of_shaped sd hu) ⟨.bl _, H, I, rfl, q⟩
theorem op_ltV (hu : X.A.units + 64 < cLine) : OpR X (compareOp .Lt) (rOrd X.K fun d e => dataLt d e) := op_ord hu fun s a b da db as bs Q r1 r2 al nn h q => lt_data r1 r2 al nn h q
theorem op_gtV (hu : X.A.units + 64 < cLine) : OpR X (compareOp .Gt) (rOrd X.K fun d e => dataLt e d) := op_ord hu fun s a b da db as bs Q r1 r2 al nn h q => gt_data r1 r2 al nn h q
theorem op_leV (hu : X.A.units + 64 < cLine) : OpR X (compareOp .LtE) (rOrd X.K fun d e => !dataLt e d) := op_ord hu fun s a b da db as bs Q r1 r2 al nn h q => le_data r1 r2 al nn h q
theorem op_geV (hu : X.A.units + 64 < cLine) : OpR X (compareOp .GtE) (rOrd X.K fun d e => !dataLt d e) := op_ord hu fun s a b da db as bs Q r1 r2 al nn h q => ge_data r1 r2 al nn h q
theorem cmpOk_iff {v w : Val} (h : cmpOk v w = true) : okV v = true ∧ okV w = true ∧ alike (toD v) (toD w) = true ∧ toD v ≠ .none := by
  unfold cmpOk at h
  simp only [Bool.and_eq_true] at h
  refine ⟨h.1.1.1, h.1.1.2, h.1.2, ?_⟩
  cases v <;> simp [toD] at h ⊢
theorem s_ord {g : PyData → PyData → Bool} {f : Val → Val → Res (Val × Bool)} (hf : ∀ v w, f v w = if cmpOk v w then .ok (.bl (g (toD v) (toD w)), false) else .bad) : OpS K (rOrd K g) f := by
  intro H A v w x y al hv hw
  rw [hf]
  split
  · rename_i h
    obtain ⟨h1, h2, h3, h4⟩ := cmpOk_iff h
    exact ans_pure _ (fun _ => rp_bl.mpr rfl) fun Q q => ⟨_, _, Rp.dp v x (SeqAt.canLay_of_shaped h1) hv, Rp.dp w y (SeqAt.canLay_of_shaped h2) hw, h1, h2, h3, h4, q⟩
  · exact bad_ans
/-! is, is not -/
def isNon : Val → Bool
  | .non => true
  | _ => false
def oIs : Val → Val → Res (Val × Bool)
  | v, .non => .ok (.bl (isNon v), false)
  | .bl a, .bl b => .ok (.bl (decide (a = b)), false)
  | _, _ => .bad
def oIsNot : Val → Val → Res (Val × Bool)
  | v, .non => .ok (.bl (!isNon v), false)
  | .bl a, .bl b => .ok (.bl (!decide (a = b)), false)
  | _, _ => .bad
abbrev rIsV : R2 := fun x y H Q => (y = .non ∧ Q (.bl (decide (x = .non))) H) ∨ rIsB x y H Q
abbrev rIsNotV : R2 := fun x y H Q => (y = .non ∧ Q (.bl (!decide (x = .non))) H) ∨ rNotB x y H Q
theorem op_isV : OpR X (compareOp .Is) rIsV := op_isN.or op_isBl
theorem op_isNotV : OpR X (compareOp .IsNot) rIsNotV := op_notN.or op_notBl
theorem rp_non_iff {H : Hp} {A : AP} {v : Val} {x : V} (h : Rp K H A v x) : decide (x = .non) = isNon v := by
  cases v
  case non => rw [rp_non] at h; subst h; rfl
  case bl => rw [rp_bl] at h; subst h; rfl
  case int => rw [rp_int] at h; subst h; rfl
  case str => rw [rp_str] at h; subst h; rfl
  case ty => rw [rp_ty] at h; subst h; rfl
  case glo => rw [rp_glo] at h; subst h; rfl
  case scr => rw [rp_scr] at h; obtain ⟨a, rfl, _⟩ := h; rfl
  case rng => rw [rp_rng] at h; obtain ⟨a, rfl, _⟩ := h; rfl
  case tup => rw [rp_tup] at h; obtain ⟨a, _, rfl, _⟩ := h; rfl
  case lst => rw [rp_lst] at h; obtain ⟨a, _, rfl, _⟩ := h; rfl
  case dK => rw [rp_dK] at h; obtain ⟨a, _, rfl, _⟩ := h; rfl
  case dT => rw [rp_dT] at h; obtain ⟨a, _, rfl, _⟩ := h; rfl
theorem s_is : OpS K rIsV oIs := by
  intro H A v w x y al hv hw
  cases w <;> try (cases v <;> exact bad_ans)
  case non =>
    rw [rp_non] at hw; subst hw
    have e := rp_non_iff hv
    have : oIs v .non = .ok (.bl (isNon v), false) := by cases v <;> rfl
    rw [this, ← e]
    exact ans_pure _ (fun _ => rp_bl.mpr rfl) fun Q q => .inl ⟨rfl, q⟩
  case bl b =>
    rw [rp_bl] at hw; subst hw
    cases v <;> try exact bad_ans
    case bl a => rw [rp_bl] at hv; subst hv; exact ans_pure _ (fun _ => rp_bl.mpr rfl) fun Q q => .inr ⟨a, b, rfl, rfl, q⟩
theorem s_isNot : OpS K rIsNotV oIsNot := by
  intro H A v w x y al hv hw
  cases w <;> try (cases v <;> exact bad_ans)
  case non =>
    rw [rp_non] at hw; subst hw
    have e := rp_non_iff hv
    have : oIsNot v .non = .ok (.bl (!isNon v), false) := by cases v <;> rfl
    rw [this, ← e]
    exact ans_pure _ (fun _ => rp_bl.mpr rfl) fun Q q => .inl ⟨rfl, q⟩
  case bl b =>
    rw [rp_bl] at hw; subst hw
    cases v <;> try exact bad_ans
    case bl a => rw [rp_bl] at hv; subst hv; exact ans_pure _ (fun _ => rp_bl.mpr rfl) fun Q q => .inr ⟨a, b, rfl, rfl, q⟩
end
end PV

namespace PV
open PySem PySem.Spec PyProof.Rows L2
open PySem.W (dataLt alike alikeAll lt_data gt_data le_data ge_data AlikeAll minD maxD)

/-- what is read of a datum: the container itself may be ours -/
def RdR (K : PySem.W.Frag) (H : Hp) (A : AP) : Val → V → Prop
  | .lst vs, x => ∃ a xs, x = .ref a ∧ H a = some (.lst xs) ∧ RpL K H A vs xs ∧ vs.length ≤ sizeLine
  | .dK vs, x => ∃ a xs, x = .ref a ∧ Rd H a (.dK xs) ∧ RpK K H A vs xs ∧ vs.length ≤ sizeLine
  | .dT vs, x => ∃ a xs, x = .ref a ∧ H a = some (.dT xs) ∧ RpT K H A vs xs ∧ vs.length ≤ sizeLine
  | v, x => Rp K H A v x
section
variable {K : PySem.W.Frag} {H : Hp} {A : AP}
theorem Rp.rdr {v : Val} {x : V} (h : Rp K H A v x) : RdR K H A v x := by
  cases v <;> try exact h
  case lst => rw [rp_lst] at h; obtain ⟨a, xs, e, _, r, l, z⟩ := h; exact ⟨a, xs, e, r, l, z⟩
  case dK => rw [rp_dK] at h; obtain ⟨a, xs, e, _, r, l, z⟩ := h; exact ⟨a, xs, e, r, l, z⟩
  case dT => rw [rp_dT] at h; obtain ⟨a, xs, e, _, r, l, z⟩ := h; exact ⟨a, xs, e, r, l, z⟩
theorem OwnAt.rdr {a : Addr} : ∀ {v : Val}, OwnAt K H A a v → RdR K H A v (.ref a)
  | .lst _, ⟨xs, h, l⟩ => ⟨a, xs, rfl, h, l⟩
  | .dK _, ⟨xs, h, l⟩ => ⟨a, xs, rfl, .inl h, l⟩
  | .dT _, ⟨xs, h, l⟩ => ⟨a, xs, rfl, h, l⟩
end

/-- a datum that may lack -/
def RpO (K : PySem.W.Frag) (H : Hp) (A : AP) : Option Val → Option V → Prop
  | some v, o => ∃ x, o = some x ∧ Rp K H A v x
  | none, o => o = none
/-! ### dicts -/
section
variable {κ : Type} [DecidableEq κ]
def getK (kvs : List (κ × Val)) (k : κ) : Option Val := (kvs.find? fun kv => decide (kv.1 = k)).map (·.2)
def putV (kvs : List (κ × Val)) (k : κ) (v : Val) : List (κ × Val) :=
  if (kvs.any fun kv => decide (kv.1 = k)) = true then kvs.map (fun kv => if kv.1 = k then (kv.1, v) else kv) else kvs ++ [(k, v)]
end
def toKey : Val → Option Key
  | .int i => some (.inl i)
  | .str s => some (.inr s)
  | _ => none
def toKeys : List Val → Option (List Key)
  | [] => some []
  | v :: vs => match toKey v, toKeys vs with
    | some k, some ks => some (k :: ks)
    | _, _ => none
section
variable {K : PySem.W.Frag} {H : Hp} {A : AP}
theorem rpk_nil {xs} : RpK K H A [] xs ↔ xs = [] := by rw [RpK]
theorem rpk_cc {k : Key} {v : Val} {vs xs} : RpK K H A ((k, v) :: vs) xs ↔ ∃ x r, xs = (k, x) :: r ∧ Rp K H A v x ∧ RpK K H A vs r := by rw [RpK]
theorem rpt_nil {xs} : RpT K H A [] xs ↔ xs = [] := by rw [RpT]
theorem rpt_cc {k : List Key} {v : Val} {vs xs} : RpT K H A ((k, v) :: vs) xs ↔ ∃ x r, xs = (k, x) :: r ∧ Rp K H A v x ∧ RpT K H A vs r := by rw [RpT]
theorem RpK.length : ∀ {vs : List (Key × Val)} {xs : List (Key × V)}, RpK K H A vs xs → xs.length = vs.length
  | [], xs, h => by rw [rpk_nil] at h; subst h; rfl
  | (k, v) :: vs, xs, h => by
    rw [rpk_cc] at h; obtain ⟨x, r, rfl, _, h2⟩ := h
    simp [RpK.length h2]
theorem RpT.length : ∀ {vs : List (List Key × Val)} {xs : List (List Key × V)}, RpT K H A vs xs → xs.length = vs.length
  | [], xs, h => by rw [rpt_nil] at h; subst h; rfl
  | (k, v) :: vs, xs, h => by
    rw [rpt_cc] at h; obtain ⟨x, r, rfl, _, h2⟩ := h
    simp [RpT.length h2]
theorem RpK.get (k : Key) : ∀ {vs : List (Key × Val)} {xs : List (Key × V)}, RpK K H A vs xs → RpO K H A (getK vs k) (valV xs k)
  | [], xs, h => by rw [rpk_nil] at h; subst h; rfl
  | (j, v) :: vs, xs, h => by
    rw [rpk_cc] at h; obtain ⟨x, r, rfl, h1, h2⟩ := h
    by_cases e : j = k
    · subst e
      have : getK ((j, v) :: vs) j = some v := by simp [getK]
      rw [this]
      exact ⟨x, by simp [valV], h1⟩
    · have e1 : getK ((j, v) :: vs) k = getK vs k := by simp [getK, List.find?_cons, e]
      have e2 : valV ((j, x) :: r) k = valV r k := valV_neg e
      rw [e1, e2]
      exact RpK.get k h2
theorem RpT.get (k : List Key) : ∀ {vs : List (List Key × Val)} {xs : List (List Key × V)}, RpT K H A vs xs → RpO K H A (getK vs k) (valV xs k)
  | [], xs, h => by rw [rpt_nil] at h; subst h; rfl
  | (j, v) :: vs, xs, h => by
    rw [rpt_cc] at h; obtain ⟨x, r, rfl, h1, h2⟩ := h
    by_cases e : j = k
    · subst e
      have : getK ((j, v) :: vs) j = some v := by simp [getK]
      rw [this]
      exact ⟨x, by simp [valV], h1⟩
    · have e1 : getK ((j, v) :: vs) k = getK vs k := by simp [getK, List.find?_cons, e]
      have e2 : valV ((j, x) :: r) k = valV r k := valV_neg e
      rw [e1, e2]
      exact RpT.get k h2
theorem RpK.keys : ∀ {vs : List (Key × Val)} {xs : List (Key × V)}, RpK K H A vs xs → xs.map (·.1) = vs.map (·.1)
  | [], xs, h => by rw [rpk_nil] at h; subst h; rfl
  | (k, v) :: vs, xs, h => by
    rw [rpk_cc] at h; obtain ⟨x, r, rfl, _, h2⟩ := h
    simp [RpK.keys h2]
theorem RpT.keys : ∀ {vs : List (List Key × Val)} {xs : List (List Key × V)}, RpT K H A vs xs → xs.map (·.1) = vs.map (·.1)
  | [], xs, h => by rw [rpt_nil] at h; subst h; rfl
  | (k, v) :: vs, xs, h => by
    rw [rpt_cc] at h; obtain ⟨x, r, rfl, _, h2⟩ := h
    simp [RpT.keys h2]
theorem any_keys {κ α β : Type} [DecidableEq κ] {vs : List (κ × α)} {xs : List (κ × β)} (h : xs.map (·.1) = vs.map (·.1)) (k : κ) : (xs.any fun kv => decide (kv.1 = k)) = (vs.any fun kv => decide (kv.1 = k)) := by
  have a : ∀ {γ : Type} (l : List (κ × γ)), (l.any fun kv => decide (kv.1 = k)) = (l.map (·.1)).any fun j => decide (j = k) := fun l => by rw [List.any_map]; rfl
  rw [a, a, h]
theorem RpK.map (k : Key) {w : Val} {y : V} (q : Rp K H A w y) : ∀ {vs : List (Key × Val)} {xs : List (Key × V)}, RpK K H A vs xs →
    RpK K H A (vs.map (fun kv => if kv.1 = k then (kv.1, w) else kv)) (xs.map (fun kv => if kv.1 = k then (kv.1, y) else kv))
  | [], xs, h => by rw [rpk_nil] at h; subst h; exact rpk_nil.mpr rfl
  | (j, v) :: vs, xs, h => by
    rw [rpk_cc] at h; obtain ⟨x, r, rfl, h1, h2⟩ := h
    have ih := RpK.map k q h2
    simp only [List.map_cons]
    by_cases e : j = k
    · rw [if_pos e, if_pos e]; exact rpk_cc.mpr ⟨y, _, rfl, q, ih⟩
    · rw [if_neg e, if_neg e]; exact rpk_cc.mpr ⟨x, _, rfl, h1, ih⟩
theorem RpT.map (k : List Key) {w : Val} {y : V} (q : Rp K H A w y) : ∀ {vs : List (List Key × Val)} {xs : List (List Key × V)}, RpT K H A vs xs →
    RpT K H A (vs.map (fun kv => if kv.1 = k then (kv.1, w) else kv)) (xs.map (fun kv => if kv.1 = k then (kv.1, y) else kv))
  | [], xs, h => by rw [rpt_nil] at h; subst h; exact rpt_nil.mpr rfl
  | (j, v) :: vs, xs, h => by
    rw [rpt_cc] at h; obtain ⟨x, r, rfl, h1, h2⟩ := h
    have ih := RpT.map k q h2
    simp only [List.map_cons]
    by_cases e : j = k
    · rw [if_pos e, if_pos e]; exact rpt_cc.mpr ⟨y, _, rfl, q, ih⟩
    · rw [if_neg e, if_neg e]; exact rpt_cc.mpr ⟨x, _, rfl, h1, ih⟩
theorem RpK.app {k : Key} {w : Val} {y : V} (q : Rp K H A w y) : ∀ {vs : List (Key × Val)} {xs : List (Key × V)}, RpK K H A vs xs → RpK K H A (vs ++ [(k, w)]) (xs ++ [(k, y)])
  | [], xs, h => by rw [rpk_nil] at h; subst h; exact rpk_cc.mpr ⟨y, [], rfl, q, rpk_nil.mpr rfl⟩
  | (j, v) :: vs, xs, h => by
    rw [rpk_cc] at h; obtain ⟨x, r, rfl, h1, h2⟩ := h
    exact rpk_cc.mpr ⟨x, _, rfl, h1, RpK.app q h2⟩
theorem RpT.app {k : List Key} {w : Val} {y : V} (q : Rp K H A w y) : ∀ {vs : List (List Key × Val)} {xs : List (List Key × V)}, RpT K H A vs xs → RpT K H A (vs ++ [(k, w)]) (xs ++ [(k, y)])
  | [], xs, h => by rw [rpt_nil] at h; subst h; exact rpt_cc.mpr ⟨y, [], rfl, q, rpt_nil.mpr rfl⟩
  | (j, v) :: vs, xs, h => by
    rw [rpt_cc] at h; obtain ⟨x, r, rfl, h1, h2⟩ := h
    exact rpt_cc.mpr ⟨x, _, rfl, h1, RpT.app q h2⟩
theorem RpK.put (k : Key) {w : Val} {y : V} (q : Rp K H A w y) {vs : List (Key × Val)} {xs : List (Key × V)} (h : RpK K H A vs xs) : RpK K H A (putV vs k w) (putK xs k y) := by
  unfold putV putK
  rw [any_keys (RpK.keys h)]
  split
  · exact RpK.map k q h
  · exact RpK.app q h
theorem RpT.put (k : List Key) {w : Val} {y : V} (q : Rp K H A w y) {vs : List (List Key × Val)} {xs : List (List Key × V)} (h : RpT K H A vs xs) : RpT K H A (putV vs k w) (putK xs k y) := by
  unfold putV putK
  rw [any_keys (RpT.keys h)]
  split
  · exact RpT.map k q h
  · exact RpT.app q h
theorem toKey_rp {v : Val} {x : V} {k : Key} (e : toKey v = some k) (h : Rp K H A v x) : x = kV k := by
  cases v <;> simp [toKey] at e <;> subst e
  · rw [rp_int] at h; exact h
  · rw [rp_str] at h; exact h
theorem toKeys_rp : ∀ {vs : List Val} {xs : List V} {ks : List Key}, toKeys vs = some ks → RpL K H A vs xs → xs = ks.map kV
  | [], xs, ks, e, h => by rw [rpl_nil] at h; subst h; simp [toKeys] at e; subst e; rfl
  | v :: vs, xs, ks, e, h => by
    rw [rpl_cons] at h; obtain ⟨x, r, rfl, h1, h2⟩ := h
    unfold toKeys at e
    cases e1 : toKey v with
    | none => rw [e1] at e; cases e
    | some k =>
      cases e2 : toKeys vs with
      | none => rw [e1, e2] at e; cases e
      | some ks' =>
        rw [e1, e2] at e
        cases e
        rw [toKey_rp e1 h1, toKeys_rp e2 h2]; rfl

/-- d[k], asked -/
def oDget : Val → Val → Res (Option Val)
  | .dK kvs, k => match toKey k with
    | some k => .ok (getK kvs k)
    | none => .bad
  | .dT kvs, .tup ks => match toKeys ks with
    | some ks => .ok (getK kvs ks)
    | none => .bad
  | _, _ => .bad
theorem oDget_ok {d k : Val} {x y : V} {r : Option Val} (h : oDget d k = .ok r) (hd : RdR K H A d x) (hk : Rp K H A k y) : ∃ a o, x = .ref a ∧ DGet H a y o ∧ RpO K H A r o := by
  cases d <;> try (cases h)
  case dK kvs =>
    obtain ⟨a, xs, rfl, ha, l, z⟩ := hd
    change (match toKey k with | some k => Res.ok (getK kvs k) | none => .bad) = _ at h
    cases e : toKey k with
    | none => rw [e] at h; cases h
    | some j =>
      rw [e] at h; cases h
      exact ⟨a, valV xs j, rfl, .inl ⟨xs, j, ha, toKey_rp e hk, rfl⟩, RpK.get j l⟩
  case dT kvs =>
    cases k <;> try (cases h)
    rename_i ks
    obtain ⟨a, xs, rfl, ha, l, z⟩ := hd
    rw [rp_tup] at hk
    obtain ⟨b, ys, rfl, _, hb, l2, _⟩ := hk
    change (match toKeys ks with | some k => Res.ok (getK kvs k) | none => .bad) = _ at h
    cases e : toKeys ks with
    | none => rw [e] at h; cases h
    | some j =>
      rw [e] at h; cases h
      have ey := toKeys_rp e l2
      subst ey
      exact ⟨a, valV xs j, rfl, .inr ⟨xs, j, b, .inl ha, rfl, hb, rfl⟩, RpT.get j l⟩
end

/-! ### o[i] -/
def rIxD : R2 := fun x y H Q => ∃ a v, x = .ref a ∧ DGet H a y (some v) ∧ Q v H
theorem ix_dict {X : Cx} (hu : X.A.units + 1 < cLine) : IxR X rIxD := by
  intro value slice pins s σ H x y v u Q I rx ry h hs
  obtain ⟨a, w, rfl, g, q⟩ := h
  obtain rfl : v = Value.ref a := rx
  have hT := dict_typeIs I g
  unfold subscriptTail
  refine wpAny_bind ?_
  rw [getitemInPython_of_ne hT.not_modules]
  refine wpAny_bind (wpAny_specialOf hT PySem.F.slot_dict_getitem.lookup ?_)
  have fin : wpAny (model X.prog X.w) X.A (subscripted slice false (.ref a) u) (fun r s₃ => wpAny (model X.prog X.w) X.A (letTemporaryGo value (.ref a) r >>= fun _ => pure r) (EP X pins σ Q) X.xe s₃) X.xe s := by
    rw [hs]
    exact wpAny_operating (d_getItem hu I g ry fun w' s3 I3 rw' => wpAny_bind (wpAny_letTemporaryGo (wpAny_pure ⟨w, H, I3, rw', q⟩)))
  first
    | exact wpAny_pure (wpAny_bind fin)
    | exact wpAny_bind (wpAny_pure (wpAny_bind fin))
    | exact wpAny_bind fin
abbrev rIxV (K : PySem.W.Frag) : R2 := fun x y H Q => rIx K x y H Q ∨ rIxD x y H Q
theorem ix_V {X : Cx} (hu : X.A.units + 1 < cLine) : IxR X (rIxV X.K) := ix_seq.or (ix_dict hu)
def oIx : Val → Val → Res (Val × Bool)
  | .lst vs, .int i => match atI vs i with
    | some v => .ok (v, false)
    | none => .bad
  | .tup vs, .int i => match atI vs i with
    | some v => .ok (v, false)
    | none => .bad
  | .str s, .int i => if s.length ≤ sizeLine then (match atI s.cps.toList i with
    | some c => .ok (.str ⟨#[c]⟩, false)
    | none => .bad) else .bad
  | .dK kvs, k => match oDget (.dK kvs) k with
    | .ok (some v) => .ok (v, false)
    | _ => .bad
  | .dT kvs, k => match oDget (.dT kvs) k with
    | .ok (some v) => .ok (v, false)
    | _ => .bad
  | _, _ => .bad
/-- a rule of values, its first value read -/
def OpSR (K : PySem.W.Frag) (r : R2) (f : Val → Val → Res (Val × Bool)) : Prop :=
  ∀ H A v w x y, (∀ a, A a → H a ≠ none) → RdR K H A v x → Rp K H A w y → Ans K H A (r x y) (f v w)
theorem OpSR.ops {K : PySem.W.Frag} {r : R2} {f : Val → Val → Res (Val × Bool)} (h : OpSR K r f) : OpS K r f := fun H A v w x y al hv hw => h H A v w x y al hv.rdr hw
section
variable {K : PySem.W.Frag} {H : Hp} {A : AP}
theorem RpL.atI {vs : List Val} {xs : List V} {i : Int} {v : Val} (h : RpL K H A vs xs) (e : L2.atI vs i = some v) : ∃ x, L2.atI xs i = some x ∧ Rp K H A v x := by
  unfold L2.atI at e ⊢
  rw [h.length]
  cases q : ixN vs.length i with
  | none => rw [q] at e; cases e
  | some j => rw [q] at e; exact h.get e
theorem ans_read {r : Hp → VK → Prop} {u : Val} {x : V} (hx : Rp K H A u x) (h : ∀ Q : VK, Q x H → r H Q) : Ans K H A r (.ok (u, false)) := fun Q q => h Q (q x H (fun _ _ e => e) hx)
theorem s_ix : OpSR K (rIxV K) oIx := by
  intro H A v w x y al hv hw
  cases v <;> try (cases w <;> exact bad_ans)
  case lst vs =>
    cases w <;> try exact bad_ans
    rename_i i
    rw [rp_int] at hw; subst hw
    obtain ⟨a, xs, rfl, ha, l, z⟩ := hv
    show Ans _ _ _ _ (match atI vs i with | some v => _ | none => _)
    cases e : atI vs i with
    | none => exact bad_ans
    | some v =>
      obtain ⟨z, e2, r⟩ := l.atI e
      exact ans_read r fun Q q => .inl (.inl ⟨a, xs, i, z, rfl, rfl, SqL.of ha, e2, q⟩)
  case tup vs =>
    cases w <;> try exact bad_ans
    rename_i i
    rw [rp_int] at hw; subst hw
    have hv : Rp K H A (.tup vs) x := hv
    rw [rp_tup] at hv
    obtain ⟨a, xs, rfl, _, ha, l, z⟩ := hv
    show Ans _ _ _ _ (match atI vs i with | some v => _ | none => _)
    cases e : atI vs i with
    | none => exact bad_ans
    | some v =>
      obtain ⟨z, e2, r⟩ := l.atI e
      exact ans_read r fun Q q => .inl (.inr (.inl ⟨a, xs, i, z, rfl, rfl, SqT.of ha, e2, q⟩))
  case str s =>
    cases w <;> try exact bad_ans
    rename_i i
    rw [rp_int] at hw; subst hw
    have hv : Rp K H A (.str s) x := hv
    rw [rp_str] at hv; subst hv
    show Ans _ _ _ _ (if s.length ≤ sizeLine then (match atI s.cps.toList i with | some c => _ | none => _) else _)
    split
    · rename_i hl
      cases e : atI s.cps.toList i with
      | none => exact bad_ans
      | some c => exact ans_pure (.str ⟨#[c]⟩) (fun _ => rp_str.mpr rfl) fun Q q => .inl (.inr (.inr ⟨s, i, c, rfl, rfl, hl, e, q⟩))
    · exact bad_ans
  case dK kvs =>
    have e0 : oIx (.dK kvs) w = match oDget (.dK kvs) w with | .ok (some v) => .ok (v, false) | _ => .bad := by cases w <;> rfl
    rw [e0]
    cases e : oDget (.dK kvs) w with
    | bad => exact bad_ans
    | exc _ _ => exact bad_ans
    | ok r =>
      obtain ⟨a, o, ex, g, z⟩ := oDget_ok e hv hw
      cases r with
      | none => exact bad_ans
      | some v =>
        obtain ⟨z, rfl, r⟩ := z
        exact ans_read r fun Q q => .inr ⟨a, z, ex, g, q⟩
  case dT kvs =>
    have e0 : oIx (.dT kvs) w = match oDget (.dT kvs) w with | .ok (some v) => .ok (v, false) | _ => .bad := by cases w <;> rfl
    rw [e0]
    cases e : oDget (.dT kvs) w with
    | bad => exact bad_ans
    | exc _ _ => exact bad_ans
    | ok r =>
      obtain ⟨a, o, ex, g, z⟩ := oDget_ok e hv hw
      cases r with
      | none => exact bad_ans
      | some v =>
        obtain ⟨z, rfl, r⟩ := z
        exact ans_read r fun Q q => .inr ⟨a, z, ex, g, q⟩
end
/-- name[b]: the name's container is read behind b -/
def dIxS (i : Nat) (db : ED) : ED := fun env => match env[i]? with
  | none | some .emp => .bad
  | _ => db env >>= fun b => match b.2.2[i]? with
    | some (.frz v) | some (.own v) => oIx v b.1 >>= fun z => .ok (z.1, z.2, b.2.2)
    | _ => .bad
theorem RelEnv.rdr {K : PySem.W.Frag} {H : Hp} {P M : AP} {σ : L2.St} {env : EnvD} {i : Nat} {v : Val} (R : RelEnv K H P M σ env) (h : env[i]? = some (.frz v) ∨ env[i]? = some (.own v)) : ∃ x, σ[i]? = some (some x) ∧ RdR K H (or' P M) v x := by
  rcases h with h | h
  · obtain ⟨x, e, r⟩ := R.slot i _ h; exact ⟨x, e, r.rdr⟩
  · obtain ⟨a, e, _, r⟩ := R.slot i _ h; exact ⟨_, e, r.rdr⟩
section
variable {X : Cx} {G : Cfg} {a b : Expr} {da db : ED} {pos : Pos}
theorem se_ix (hu : X.A.units + 1 < cLine) (hK : X.K = G.K) (ha : PE X a (tE G da)) (hb : PE X b (tE G db)) (hs : PlainIx b) : PE X (.Subscript a b pos) (tE G (dBin oIx da db)) :=
  (pe_ix (ix_V hu) ha hb hs).pv fun σ H Q h => by rw [hK]; exact tE_bin s_ix.ops h
theorem se_ixS {i : Nat} (hu : X.A.units + 1 < cLine) (hK : X.K = G.K) (ha : PE X a (tVar i)) (hb : PE X b (tE G db)) (hs : PlainIx b) : PE X (.Subscript a b pos) (tE G (dIxS i db)) :=
  (pe_ix (ix_V hu) ha hb hs).pv fun σ H Q h => by
    rw [hK]
    obtain ⟨M, env, R, p⟩ := h
    unfold dIxS at p
    have key : ∀ v, (env[i]? = some (.frz v) ∨ env[i]? = some (.own v)) → Post G M H (okE G σ Q) (db env >>= fun b => match b.2.2[i]? with
        | some (.frz v) | some (.own v) => oIx v b.1 >>= fun z => .ok (z.1, z.2, b.2.2)
        | _ => .bad) → tOp (rIxV G.K) (tVar i) (tE G db) σ H Q := fun v hv p => by
      obtain ⟨x0, e0, _⟩ := R.rdr hv
      refine ⟨x0, e0, ?_⟩
      refine Post.bindF R p fun w o e2 y M2 H2 x2 R2 r2 p2 => ?_
      have fin : ∀ v, (e2[i]? = some (.frz v) ∨ e2[i]? = some (.own v)) → Post G M2 H2 (okE G σ Q) (oIx v w >>= fun z => .ok (z.1, z.2, e2)) → rIxV G.K x0 y H2 Q := fun v hv p => by
        obtain ⟨x, e, r⟩ := R2.rdr hv
        have e := e.symm.trans e0
        cases e
        exact fin_ans R2 (s_ix H2 _ v w x0 y R2.al r r2) p
      simp only at p2
      split at p2
      · rename_i v h; exact fin v (.inl h) p2
      · rename_i v h; exact fin v (.inr h) p2
      · exact p2.elim
    split at p
    · exact p.elim
    · exact p.elim
    · rename_i t h1 h2
      cases q : env[i]? with
      | none => exact (h1 q).elim
      | some t =>
        cases t with
        | emp => exact (h2 q).elim
        | frz v => exact key v (.inl q) p
        | own v => exact key v (.inr q) p
end
end PV

namespace PV
open PySem PySem.Spec PyProof.Rows L2
open PySem.W (dataLt alike alikeAll lt_data gt_data le_data ge_data AlikeAll minD maxD)

/-! ### in, not in -/
def rInV (K : PySem.W.Frag) (g : Bool → Bool) : R2 := fun x y H Q =>
  (∃ d ds, Dp K H x d ∧ (Dp K H y (.list ds) ∨ Dp K H y (.tuple ds)) ∧ SeqAt.shaped d = true ∧ PyData.canLayAll0 ds = true ∧ Q (.bl (g (ds.any fun z => PyData.eqv z d))) H) ∨
  (∃ a o, y = .ref a ∧ DGet H a x o ∧ Q (.bl (g o.isSome)) H) ∨ (∃ (c : Nat) (z : Str), x = .str ⟨#[c]⟩ ∧ y = .str z ∧ Q (.bl (g (decide (c ∈ z.cps.toList)))) H)
theorem room_dep {A : Around} {ds : List PyData} {d : PyData} (h : SeqAt.shaped d = true) (hu : A.units + 65 < cLine) : A.units + 1 + min (PyData.depthAll ds) d.depth < cLine := by
  have := SeqAt.depth_of_shaped h
  have h2 : min (PyData.depthAll ds) d.depth ≤ d.depth := Nat.min_le_right _ _
  omega
theorem op_inV {X : Cx} (hu : X.A.units + 65 < cLine) : OpR X (compareOp .In) (rInV X.K id) := by
  intro pins s σ H x y v u Q I rx ry h
  rcases h with ⟨d, ds, hd, he, sd, se, q⟩ | ⟨a, o, rfl, g, q⟩ | h
  · obtain ⟨as, r1⟩ := Dp.reads I d x v hd rx
    rcases he with he | he
    · obtain ⟨bs, r2⟩ := Dp.reads I (.list ds) y u he ry
      exact SeqAt.in_list_reads r2 r1 se (SeqAt.canLay_of_shaped sd) (room_dep sd hu) ⟨.bl _, H, I, rfl, q⟩
    · obtain ⟨bs, r2⟩ := Dp.reads I (.tuple ds) y u he ry
      exact SeqAt.in_tuple_reads r2 r1 se (SeqAt.canLay_of_shaped sd) (room_dep sd hu) ⟨.bl _, H, I, rfl, q⟩
  · obtain rfl : u = Value.ref a := ry
    exact d_in (by omega) I g rx fun s3 I3 => ⟨.bl o.isSome, H, I3, rfl, q⟩
  · exact op_in_sign pins s σ H x y v u Q I rx ry h
theorem op_notInV {X : Cx} (hu : X.A.units + 65 < cLine) : OpR X (compareOp .NotIn) (rInV X.K not) := by
  intro pins s σ H x y v u Q I rx ry h
  rcases h with ⟨d, ds, hd, he, sd, se, q⟩ | ⟨a, o, rfl, g, q⟩ | h
  · obtain ⟨as, r1⟩ := Dp.reads I d x v hd rx
    rcases he with he | he
    · obtain ⟨bs, r2⟩ := Dp.reads I (.list ds) y u he ry
      exact SeqAt.notIn_list_reads r2 r1 se (SeqAt.canLay_of_shaped sd) (room_dep sd hu) ⟨.bl _, H, I, rfl, q⟩
    · obtain ⟨bs, r2⟩ := Dp.reads I (.tuple ds) y u he ry
      exact SeqAt.notIn_tuple_reads r2 r1 se (SeqAt.canLay_of_shaped sd) (room_dep sd hu) ⟨.bl _, H, I, rfl, q⟩
  · obtain rfl : u = Value.ref a := ry
    exact d_notIn (by omega) I g rx fun s3 I3 => ⟨.bl (!o.isSome), H, I3, rfl, q⟩
  · exact op_notIn_sign pins s σ H x y v u Q I rx ry h
def sign1 (s : Str) : Option Nat := match s.cps.toList with
  | [c] => some c
  | _ => none
theorem sign1_eq {s : Str} {c : Nat} (h : sign1 s = some c) : s = ⟨#[c]⟩ := by
  unfold sign1 at h
  split at h
  · rename_i e
    cases h
    obtain ⟨l⟩ := s
    simp only at e
    congr
    exact Array.toList_inj.mp (by simpa using e)
  · cases h
/-- x in c, c read -/
def oInB : Val → Val → Res Bool
  | v, .lst ws => if okV v && PyData.canLayAll0 (toDs ws) then .ok (ws.any fun z => eqV z v) else .bad
  | v, .tup ws => if okV v && PyData.canLayAll0 (toDs ws) then .ok (ws.any fun z => eqV z v) else .bad
  | .str s, .str t => match sign1 s with
    | some c => .ok (decide (c ∈ t.cps.toList))
    | none => .bad
  | v, .dK kvs => oDget (.dK kvs) v >>= fun r => .ok r.isSome
  | v, .dT kvs => oDget (.dT kvs) v >>= fun r => .ok r.isSome
  | _, _ => .bad
def oIn (v w : Val) : Res (Val × Bool) := oInB v w >>= fun b => .ok (.bl b, false)
def oNotIn (v w : Val) : Res (Val × Bool) := oInB v w >>= fun b => .ok (.bl (!b), false)
/-- a rule of values, its second value read -/
def OpSR2 (K : PySem.W.Frag) (r : R2) (f : Val → Val → Res (Val × Bool)) : Prop :=
  ∀ H A v w x y, (∀ a, A a → H a ≠ none) → Rp K H A v x → RdR K H A w y → Ans K H A (r x y) (f v w)
theorem OpSR2.ops {K : PySem.W.Frag} {r : R2} {f : Val → Val → Res (Val × Bool)} (h : OpSR2 K r f) : OpS K r f := fun H A v w x y al hv hw => h H A v w x y al hv hw.rdr
theorem s_inB {K : PySem.W.Frag} {g : Bool → Bool} : OpSR2 K (rInV K g) (fun v w => oInB v w >>= fun b => .ok (.bl (g b), false)) := by
  intro H A v w x y al hv hw
  cases w <;> try (cases v <;> exact bad_ans)
  case lst ws =>
    have e : oInB v (.lst ws) = if okV v && PyData.canLayAll0 (toDs ws) then .ok (ws.any fun z => eqV z v) else .bad := by cases v <;> rfl
    simp only [e]
    split
    · rename_i h
      rw [Bool.and_eq_true] at h
      obtain ⟨a, xs, rfl, ha, l, z⟩ := hw
      refine ans_pure _ (fun _ => rp_bl.mpr rfl) fun Q q => .inl ⟨_, _, Rp.dp v x (SeqAt.canLay_of_shaped h.1) hv, .inl (.lst (SqL.of ha) (RpL.dp ws xs h.2 l)), h.1, h.2, ?_⟩
      rw [toDs_map, List.any_map]; exact q
    · exact bad_ans
  case tup ws =>
    have e : oInB v (.tup ws) = if okV v && PyData.canLayAll0 (toDs ws) then .ok (ws.any fun z => eqV z v) else .bad := by cases v <;> rfl
    simp only [e]
    split
    · rename_i h
      rw [Bool.and_eq_true] at h
      have hw : Rp K H A (.tup ws) y := hw
      rw [rp_tup] at hw
      obtain ⟨a, xs, rfl, _, ha, l, z⟩ := hw
      refine ans_pure _ (fun _ => rp_bl.mpr rfl) fun Q q => .inl ⟨_, _, Rp.dp v x (SeqAt.canLay_of_shaped h.1) hv, .inr (.tup (SqT.of ha) (RpL.dp ws xs h.2 l)), h.1, h.2, ?_⟩
      rw [toDs_map, List.any_map]; exact q
    · exact bad_ans
  case str t =>
    cases v <;> try exact bad_ans
    rename_i s
    have hw : Rp K H A (.str t) y := hw
    rw [rp_str] at hw hv; subst hw hv
    show Ans _ _ _ _ ((match sign1 s with | some c => Res.ok (decide (c ∈ t.cps.toList)) | none => .bad) >>= _)
    cases e : sign1 s with
    | none => exact bad_ans
    | some c => exact ans_pure _ (fun _ => rp_bl.mpr rfl) fun Q q => .inr (.inr ⟨c, t, by rw [sign1_eq e], rfl, q⟩)
  case dK kvs =>
    have e0 : oInB v (.dK kvs) = oDget (.dK kvs) v >>= fun r => .ok r.isSome := by cases v <;> rfl
    simp only [e0]
    cases e : oDget (.dK kvs) v with
    | bad => exact bad_ans
    | exc c p => cases v <;> simp [oDget, toKey] at e
    | ok r =>
      obtain ⟨a, o, ex, g', z⟩ := oDget_ok e hw hv
      refine ans_pure (.bl (g r.isSome)) (fun _ => rp_bl.mpr rfl) fun Q q => .inr (.inl ⟨a, o, ex, g', ?_⟩)
      have : o.isSome = r.isSome := by cases r with
        | none => rw [show o = none from z]; rfl
        | some v => obtain ⟨z, rfl, _⟩ := z; rfl
      rw [this]; exact q
  case dT kvs =>
    have e0 : oInB v (.dT kvs) = oDget (.dT kvs) v >>= fun r => .ok r.isSome := by cases v <;> rfl
    simp only [e0]
    cases e : oDget (.dT kvs) v with
    | bad => exact bad_ans
    | exc c p =>
      cases v <;> simp [oDget] at e
      split at e <;> simp at e
    | ok r =>
      obtain ⟨a, o, ex, g', z⟩ := oDget_ok e hw hv
      refine ans_pure (.bl (g r.isSome)) (fun _ => rp_bl.mpr rfl) fun Q q => .inr (.inl ⟨a, o, ex, g', ?_⟩)
      have : o.isSome = r.isSome := by cases r with
        | none => rw [show o = none from z]; rfl
        | some v => obtain ⟨z, rfl, _⟩ := z; rfl
      rw [this]; exact q
theorem s_in {K : PySem.W.Frag} : OpSR2 K (rInV K id) oIn := s_inB
theorem s_notIn {K : PySem.W.Frag} : OpSR2 K (rInV K not) oNotIn := s_inB
/-- a op name: the name's container is read behind a -/
def dRS (f : Val → Val → Res (Val × Bool)) (da : ED) (i : Nat) : ED := fun env => da env >>= fun a => match a.2.2[i]? with
  | some (.frz v) | some (.own v) => f a.1 v >>= fun z => .ok (z.1, z.2, a.2.2)
  | _ => .bad
section
variable {X : Cx} {G : Cfg} {a b : Expr} {da db : ED} {pos : Pos}
theorem tE_RS {r : R2} {f : Val → Val → Res (Val × Bool)} {i : Nat} (hs : OpSR2 G.K r f) {σ : L2.St} {H : Hp} {Q : VK} (h : tE G (dRS f da i) σ H Q) : tOp r (tE G da) (tVar i) σ H Q := by
  obtain ⟨M, env, R, p⟩ := h
  refine Post.bindF R p fun v o e1 x M1 H1 x1 R1 r1 p1 => ?_
  have fin : ∀ w, (e1[i]? = some (.frz w) ∨ e1[i]? = some (.own w)) → Post G M1 H1 (okE G σ Q) (f v w >>= fun z => .ok (z.1, z.2, e1)) → tVar i σ H1 (fun y H2 => r x y H2 Q) := fun w hw p => by
    obtain ⟨y, e, rr⟩ := R1.rdr hw
    exact ⟨y, e, fin_ans R1 (hs H1 _ v w x y R1.al r1 rr) p⟩
  simp only at p1
  split at p1
  · rename_i v h; exact fin v (.inl h) p1
  · rename_i v h; exact fin v (.inr h) p1
  · exact p1.elim
theorem se_cmpS {op : CmpOp} {r : R2} {f : Val → Val → Res (Val × Bool)} {i : Nat} (ho : OpR X (compareOp op) r) (hs : OpSR2 G.K r f) (ha : PE X a (tE G da)) (hb : PE X b (tVar i)) (hm : behindInMarks op b = false) : PE X (.Compare a [op] [b] pos) (tE G (dRS f da i)) :=
  (pe_cmpR ho ha hb hm).pv fun σ H Q h => tE_RS hs h
end

/-! ### tests -/
abbrev TD := EnvD → Res (Bool × EnvD)
def okT (G : Cfg) (σ : L2.St) (Q : Bool → Hp → Prop) : Bool × EnvD → AP → Hp → Prop := fun r M H => RelEnv G.K H G.P M σ r.2 → Q r.1 H
def tT (G : Cfg) (d : TD) : TT := fun σ H Q => ∃ M env, RelEnv G.K H G.P M σ env ∧ Post G M H (okT G σ Q) (d env)
/-- a value that is a truth value, as a test -/
def dTB (d : ED) : TD := fun env => d env >>= fun a => match a.1 with
  | .bl b => .ok (b, a.2.2)
  | _ => .bad
def truV : Val → Option Bool
  | .non => some false
  | .bl b => some b
  | .int i => some (i != 0)
  | .str s => if s.length ≤ sizeLine then some ((s.length : Int) != 0) else none
  | .tup vs => some (!vs.isEmpty)
  | .lst vs => some (!vs.isEmpty)
  | _ => none
def dTru (d : ED) : TD := fun env => d env >>= fun a => match truV a.1 with
  | some b => .ok (b, a.2.2)
  | none => .bad
def dTruS (i : Nat) : TD := fun env => match env[i]? with
  | some (.frz v) | some (.own v) => (match truV v with
    | some b => .ok (b, env)
    | none => .bad)
  | _ => .bad
def dAndT (d e : TD) : TD := fun env => d env >>= fun r => if r.1 then e r.2 else .ok (false, r.2)
def dOrT (d e : TD) : TD := fun env => d env >>= fun r => if r.1 then .ok (true, r.2) else e r.2
def dNotT (d : TD) : TD := fun env => d env >>= fun r => .ok (!r.1, r.2)
def dIf (t : TD) (d e : ED) : ED := fun env => t env >>= fun r => if r.1 then d r.2 else e r.2
def dAndV (d e : ED) : ED := fun env => d env >>= fun a => match a.1 with
  | .bl true => e a.2.2
  | .bl false => .ok (.bl false, false, a.2.2)
  | _ => .bad
def dOrV (d e : ED) : ED := fun env => d env >>= fun a => match a.1 with
  | .bl false => e a.2.2
  | .bl true => .ok (.bl true, false, a.2.2)
  | _ => .bad
def oNot : Val → Res (Val × Bool)
  | .bl b => .ok (.bl (!b), false)
  | _ => .bad
theorem isEmpty_len {α β : Type} {xs : List α} {ys : List β} (h : xs.length = ys.length) : xs.isEmpty = ys.isEmpty := by
  cases xs <;> cases ys <;> simp at h ⊢
theorem tru_of {K : PySem.W.Frag} {H : Hp} {A : AP} {v : Val} {x : V} {b : Bool} (h : RdR K H A v x) (e : truV v = some b) : TruV K x H b := by
  cases v <;> simp only [truV] at e <;> try (cases e; done)
  case non => cases e; have h : Rp K H A .non x := h; rw [rp_non] at h; subst h; rfl
  case bl => cases e; have h : Rp K H A (.bl _) x := h; rw [rp_bl] at h; subst h; rfl
  case int => cases e; have h : Rp K H A (.int _) x := h; rw [rp_int] at h; subst h; rfl
  case str s =>
    have h : Rp K H A (.str _) x := h; rw [rp_str] at h; subst h
    split at e
    · rename_i hl; cases e; exact ⟨hl, rfl⟩
    · cases e
  case tup vs =>
    cases e; have h : Rp K H A (.tup _) x := h; rw [rp_tup] at h
    obtain ⟨a, xs, rfl, _, ha, l, z⟩ := h
    exact .inr (.inl ⟨xs, SqT.of ha, by rw [isEmpty_len l.length]⟩)
  case lst vs =>
    cases e
    obtain ⟨a, xs, rfl, ha, l, z⟩ := h
    exact .inl ⟨xs, SqL.of ha, by rw [isEmpty_len l.length]⟩
section
variable {X : Cx} {G : Cfg} {a b c : Expr} {da db dc : ED} {ta tb : TD} {pos : Pos} {rest : List Expr}
theorem Post.bindT {α : Type} {M : AP} {H : Hp} {σ : L2.St} {env : EnvD} {ok : α → AP → Hp → Prop} {f : Bool × EnvD → Res α} {d : TD} {B : Bool → Hp → Prop} (R : RelEnv G.K H G.P M σ env) (h : Post G M H ok (d env >>= f))
    (k : ∀ b env' M' H', Ext M H M' H' → RelEnv G.K H' G.P M' σ env' → Post G M' H' ok (f (b, env')) → B b H') : tT G d σ H B := by
  refine ⟨M, env, R, ?_⟩
  cases q : d env with
  | ok a =>
    obtain ⟨b, env'⟩ := a
    rw [q] at h
    exact fun M' H' e R' => k b env' M' H' e R' (Post.mono (r := f (b, env')) h e)
  | exc c p => rw [q] at h; exact h
  | bad => rw [q] at h; exact h
theorem Post.endT {M : AP} {H : Hp} {σ : L2.St} {b : Bool} {env : EnvD} {Q : Bool → Hp → Prop} (R : RelEnv G.K H G.P M σ env) (p : Post G M H (okT G σ Q) (.ok (b, env))) : Q b H := p M H .refl R
theorem st_B {t : TE} (h : PT X a (tTest t)) (w : ∀ σ H Q, tE G da σ H Q → t σ H Q) : PT X a (tT G (dTB da)) := h.pv fun σ H Q hq => by
  refine w σ H _ ?_
  obtain ⟨M, env, R, p⟩ := hq
  refine Post.bindF R p fun v o e1 x M1 H1 x1 R1 r1 p1 => ?_
  cases v <;> try exact p1.elim
  rw [rp_bl] at r1; subst r1
  exact ⟨_, rfl, p1.endT R1⟩
theorem st_truth (ha : PE X a (tE G da)) (hK : X.K = G.K) (he : ∀ whole, isTrue a X.env whole = (do let v ← whole; standAt a.pos; holding [v] (truthy v))) : PT X a (tT G (dTru da)) := (pt_truth ha he).pv fun σ H Q hq => by
  obtain ⟨M, env, R, p⟩ := hq
  refine Post.bindF R p fun v o e1 x M1 H1 x1 R1 r1 p1 => ?_
  simp only at p1
  cases e : truV v with
  | none => rw [e] at p1; exact p1.elim
  | some b => rw [e] at p1; exact ⟨b, by rw [hK]; exact tru_of r1.rdr e, p1.endT R1⟩
theorem st_truthS {i : Nat} (ha : PE X a (tVar i)) (hK : X.K = G.K) (he : ∀ whole, isTrue a X.env whole = (do let v ← whole; standAt a.pos; holding [v] (truthy v))) : PT X a (tT G (dTruS i)) := (pt_truth ha he).pv fun σ H Q hq => by
  obtain ⟨M, env, R, p⟩ := hq
  have fin : ∀ v, (env[i]? = some (.frz v) ∨ env[i]? = some (.own v)) → Post G M H (okT G σ Q) (match truV v with | some b => .ok (b, env) | none => .bad) → tVar i σ H (fun x H' => ∃ k, TruV X.K x H' k ∧ Q k H') := fun v hv p => by
    obtain ⟨x, e, r⟩ := R.rdr hv
    cases e' : truV v with
    | none => rw [e'] at p; exact p.elim
    | some b => rw [e'] at p; exact ⟨x, e, b, by rw [hK]; exact tru_of r e', p.endT R⟩
  unfold dTruS at p
  split at p
  · rename_i v h; exact fin v (.inl h) p
  · rename_i v h; exact fin v (.inr h) p
  · exact p.elim
theorem sw_and (ha : PT X a (tT G ta)) (hb : PW X (.BoolOp .And (b :: rest) pos) (tT G tb)) : PW X (.BoolOp .And (a :: b :: rest) pos) (tT G (dAndT ta tb)) := (pw_and ha hb).pv fun σ H Q hq => by
  obtain ⟨M, env, R, p⟩ := hq
  refine Post.bindT R p fun c e1 M1 H1 x1 R1 p1 => ?_
  cases c with
  | true => exact ⟨M1, e1, R1, p1⟩
  | false => exact p1.endT R1
theorem sw_or (ha : PT X a (tT G ta)) (hb : PW X (.BoolOp .Or (b :: rest) pos) (tT G tb)) : PW X (.BoolOp .Or (a :: b :: rest) pos) (tT G (dOrT ta tb)) := (pw_or ha hb).pv fun σ H Q hq => by
  obtain ⟨M, env, R, p⟩ := hq
  refine Post.bindT R p fun c e1 M1 H1 x1 R1 p1 => ?_
  cases c with
  | true => exact p1.endT R1
  | false => exact ⟨M1, e1, R1, p1⟩
theorem st_not (ha : PT X a (tT G ta)) : PT X (.UnaryOp .Not a pos) (tT G (dNotT ta)) := (pt_not ha).pv fun σ H Q hq => by
  obtain ⟨M, env, R, p⟩ := hq
  exact Post.bindT R p fun c e1 M1 H1 x1 R1 p1 => p1.endT R1
theorem se_if (hc : PT X c (tT G ta)) (ha : PE X a (tE G da)) (hb : PE X b (tE G db)) : PE X (.IfExp c a b pos) (tE G (dIf ta da db)) := (pe_ifExp hc ha hb).pv fun σ H Q hq => by
  obtain ⟨M, env, R, p⟩ := hq
  refine Post.bindT R p fun c e1 M1 H1 x1 R1 p1 => ?_
  cases c with
  | true => exact ⟨M1, e1, R1, p1⟩
  | false => exact ⟨M1, e1, R1, p1⟩
theorem Post.endE {M : AP} {H : Hp} {σ : L2.St} {v : Val} {env : EnvD} {Q : VK} {x : V} (R : RelEnv G.K H G.P M σ env) (p : Post G M H (okE G σ Q) (.ok (v, false, env))) (r : Rp G.K H (or' G.P M) v x) : Q x H := p M H .refl R x r
theorem se_and (ha : PE X a (tE G da)) (hb : PE X (.BoolOp .And (b :: rest) pos) (tE G db)) : PE X (.BoolOp .And (a :: b :: rest) pos) (tE G (dAndV da db)) := (pe_and ha hb).pv fun σ H Q hq => by
  obtain ⟨M, env, R, p⟩ := hq
  refine Post.bindF R p fun v o e1 x M1 H1 x1 R1 r1 p1 => ?_
  cases v <;> try exact p1.elim
  rename_i c
  rw [rp_bl] at r1; subst r1
  refine ⟨c, rfl, ?_⟩
  cases c with
  | true => exact ⟨M1, e1, R1, p1⟩
  | false => exact p1.endE R1 (rp_bl.mpr rfl)
theorem se_or (ha : PE X a (tE G da)) (hb : PE X (.BoolOp .Or (b :: rest) pos) (tE G db)) : PE X (.BoolOp .Or (a :: b :: rest) pos) (tE G (dOrV da db)) := (pe_or ha hb).pv fun σ H Q hq => by
  obtain ⟨M, env, R, p⟩ := hq
  refine Post.bindF R p fun v o e1 x M1 H1 x1 R1 r1 p1 => ?_
  cases v <;> try exact p1.elim
  rename_i c
  rw [rp_bl] at r1; subst r1
  refine ⟨c, rfl, ?_⟩
  cases c with
  | true => exact p1.endE R1 (rp_bl.mpr rfl)
  | false => exact ⟨M1, e1, R1, p1⟩
theorem se_not (ha : PE X a (tE G da)) : PE X (.UnaryOp .Not a pos) (tE G (dUn oNot da)) := (pe_not ha).pv fun σ H Q hq => by
  obtain ⟨M, env, R, p⟩ := hq
  refine Post.bindF R p fun v o e1 x M1 H1 x1 R1 r1 p1 => ?_
  cases v <;> try exact p1.elim
  rename_i c
  rw [rp_bl] at r1; subst r1
  exact ⟨c, rfl, p1.endE R1 (rp_bl.mpr rfl)⟩
/-- a op b op' c -/
def dChain (f f' : Val → Val → Res (Val × Bool)) (da db dc : ED) : ED := fun env => da env >>= fun a => db a.2.2 >>= fun b => f a.1 b.1 >>= fun z => match z.1 with
  | .bl true => dc b.2.2 >>= fun c => f' b.1 c.1 >>= fun z => .ok (z.1, z.2, c.2.2)
  | .bl false => .ok (.bl false, false, b.2.2)
  | _ => .bad
theorem tE_chain {r r' : R2} {f f' : Val → Val → Res (Val × Bool)} (hs : OpS G.K r f) (hs' : OpS G.K r' f') {σ : L2.St} {H : Hp} {Q : VK} (h : tE G (dChain f f' da db dc) σ H Q) : tChain r r' (tE G da) (tE G db) (tE G dc) σ H Q := by
  obtain ⟨M, env, R, p⟩ := h
  refine Post.bindF R p fun v o e1 x M1 H1 x1 R1 r1 p1 => ?_
  refine Post.bindF R1 p1 fun w o2 e2 y M2 H2 x2 R2 r2 p2 => ?_
  have r1' := Rp.stay (x2.stay R1.pal) _ _ r1
  have a := hs H2 _ v w x y R2.al r1' r2
  revert a p2
  simp only
  cases f v w with
  | bad => intro p2; exact p2.elim
  | exc c q => intro p2 a; exact a.elim
  | ok z =>
    obtain ⟨u, o⟩ := z
    intro p2 a
    refine a _ fun z H' s n => ?_
    cases u <;> try exact p2.elim
    rename_i k
    cases o with
    | true => obtain ⟨p, _, _, z⟩ := n; exact z.elim
    | false =>
      have n : Rp G.K H' (or' G.P M2) (.bl k) z := n
      rw [rp_bl] at n; subst n
      have ee : Ext M2 H2 M2 H' := Ext.same s fun _ m => .inl m
      have R3 := R2.same s (fun _ m => m) ee fun a m => ee.live a (R2.mal a m)
      refine ⟨k, rfl, ?_⟩
      cases k with
      | false => exact Post.endE R3 (p2.mono ee) (rp_bl.mpr rfl)
      | true =>
        refine Post.bindF R3 (p2.mono ee) fun u o3 e3 t M4 H4 x4 R4 r4 p4 => ?_
        have r2' := Rp.stay ((ee.trans x4).stay R2.pal) _ _ r2
        exact fin_ans R4 (hs' H4 _ w u y t R4.al r2' r4) p4
theorem se_chain {op op' : CmpOp} {r r' : R2} {f f' : Val → Val → Res (Val × Bool)} (ho : OpR X (compareOp op) r) (ho' : OpR X (compareOp op') r') (hs : OpS G.K r f) (hs' : OpS G.K r' f') (ha : PE X a (tE G da)) (hb : PE X b (tE G db)) (hc : PE X c (tE G dc))
    (hm : lastMarks [op, op'] [b, c] = false) : PE X (.Compare a [op, op'] [b, c] pos) (tE G (dChain f f' da db dc)) := (pe_chain ho ho' ha hb hc hm).pv fun σ H Q h => tE_chain hs hs' h
theorem st_chain {op op' : CmpOp} {r r' : R2} {f f' : Val → Val → Res (Val × Bool)} (ho : OpR X (compareOp op) r) (ho' : OpR X (compareOp op') r') (hs : OpS G.K r f) (hs' : OpS G.K r' f') (ha : PE X a (tE G da)) (hb : PE X b (tE G db)) (hc : PE X c (tE G dc))
    (hm : lastMarks [op, op'] [b, c] = false) : PT X (.Compare a [op, op'] [b, c] pos) (tT G (dTB (dChain f f' da db dc))) := st_B (pt_chain ho ho' ha hb hc hm) fun σ H Q h => tE_chain hs hs' h
theorem st_cmp {op : CmpOp} {r : R2} {f : Val → Val → Res (Val × Bool)} (ho : OpR X (compareOp op) r) (hs : OpS G.K r f) (ha : PE X a (tE G da)) (hb : PE X b (tE G db)) (hm : behindInMarks op b = false) : PT X (.Compare a [op] [b] pos) (tT G (dTB (dBin f da db))) :=
  st_B (pt_cmpR ho ha hb hm) fun σ H Q h => tE_bin hs h
theorem st_cmpS {op : CmpOp} {r : R2} {f : Val → Val → Res (Val × Bool)} {i : Nat} (ho : OpR X (compareOp op) r) (hs : OpSR2 G.K r f) (ha : PE X a (tE G da)) (hb : PE X b (tVar i)) (hm : behindInMarks op b = false) : PT X (.Compare a [op] [b] pos) (tT G (dTB (dRS f da i))) :=
  st_B (pt_cmpR ho ha hb hm) fun σ H Q h => tE_RS hs h
end

/-! ### argument lists, displays -/
def dList : List ED → EnvD → Res (List Val × EnvD)
  | [], env => .ok ([], env)
  | d :: ds, env => d env >>= fun a => dList ds a.2.2 >>= fun r => .ok (a.1 :: r.1, r.2)
theorem dList_len : ∀ {ds : List ED} {env : EnvD} {r : List Val × EnvD}, dList ds env = .ok r → r.1.length = ds.length
  | [], env, r, h => by cases h; rfl
  | d :: ds, env, r, h => by
    unfold dList at h
    cases e : d env with
    | ok a =>
      rw [e] at h
      simp only [res_ok_bind] at h
      cases e2 : dList ds a.2.2 with
      | ok q => rw [e2] at h; cases h; simp [dList_len e2]
      | exc _ _ => rw [e2] at h; cases h
      | bad => rw [e2] at h; cases h
    | exc _ _ => rw [e] at h; cases h
    | bad => rw [e] at h; cases h
def okL (G : Cfg) (σ : L2.St) (Q : List V → Hp → Prop) : List Val × EnvD → AP → Hp → Prop := fun r M H => RelEnv G.K H G.P M σ r.2 → ∀ xs, RpL G.K H (or' G.P M) r.1 xs → Q xs H
def tL (G : Cfg) (ds : List ED) : TA := fun σ H Q => ∃ M env, RelEnv G.K H G.P M σ env ∧ Post G M H (okL G σ Q) (dList ds env)
section
variable {X : Cx} {G : Cfg} {e : Expr} {es : List Expr} {d : ED} {ds : List ED} {pos : Pos}
theorem Post.bindL {α : Type} {M : AP} {H : Hp} {σ : L2.St} {env : EnvD} {ok : α → AP → Hp → Prop} {f : List Val × EnvD → Res α} {B : List V → Hp → Prop} (R : RelEnv G.K H G.P M σ env) (h : Post G M H ok (dList ds env >>= f))
    (k : ∀ vs env' xs M' H', dList ds env = .ok (vs, env') → Ext M H M' H' → RelEnv G.K H' G.P M' σ env' → RpL G.K H' (or' G.P M') vs xs → Post G M' H' ok (f (vs, env')) → B xs H') : tL G ds σ H B := by
  refine ⟨M, env, R, ?_⟩
  cases q : dList ds env with
  | ok a =>
    obtain ⟨b, env'⟩ := a
    rw [q] at h
    exact fun M' H' e R' xs r => k b env' xs M' H' q e R' r (Post.mono (r := f (b, env')) h e)
  | exc c p => rw [q] at h; exact h
  | bad => rw [q] at h; exact h
theorem sa_nil : PA X [] (tL G []) := pa_nil.pv fun σ H Q ⟨M, env, R, p⟩ => p M H .refl R [] RpL.nil
theorem sa_cons (hd : PE X e (tE G d)) (hr : PA X es (tL G ds)) (hs : starEach (e :: es) X.env = (false, eval e X.env) :: starEach es X.env) : PA X (e :: es) (tL G (d :: ds)) := (pa_cons hd hr hs).pv fun σ H Q ⟨M, env, R, p⟩ => by
  refine Post.bindF R p fun v o e1 x M1 H1 x1 R1 r1 p1 => ?_
  refine Post.bindL R1 p1 fun vs e2 xs M2 H2 _ x2 R2 r2 p2 => ?_
  exact p2 M2 H2 .refl R2 (x :: xs) (rpl_cc.mpr ⟨Rp.stay (x2.stay R1.pal) _ _ r1, r2⟩)
def dTup (ds : List ED) : ED := fun env => dList ds env >>= fun r => .ok (.tup r.1, false, r.2)
def dLst (ds : List ED) : ED := fun env => dList ds env >>= fun r => .ok (.lst r.1, true, r.2)
theorem se_tup {x1} (h : PA X es (tL G ds)) (hl : ds.length ≤ 1000) : PE X (.Tuple es x1 pos) (tE G (dTup ds)) := (pe_tup h).pv fun σ H Q ⟨M, env, R, p⟩ => by
  refine Post.bindL R p fun vs e2 xs M2 H2 q x2 R2 r2 p2 => ⟨?_, fun a ha => ?_⟩
  · have := r2.length; have := dList_len q; rw [sizeLine_eq]; simp only at *; omega
  · exact fin_new R2 p2 (same_upd ha) (new_tup R2.al ha r2 (by have := dList_len q; rw [sizeLine_eq]; simp only at *; omega))
theorem se_lst (h : PA X es (tL G ds)) (hl : ds.length ≤ 1000) : PE X (.List es pos) (tE G (dLst ds)) := (pe_lst h).pv fun σ H Q ⟨M, env, R, p⟩ => by
  refine Post.bindL R p fun vs e2 xs M2 H2 q x2 R2 r2 p2 => ⟨?_, fun a ha => ?_⟩
  · have := r2.length; have := dList_len q; rw [sizeLine_eq]; simp only at *; omega
  · exact fin_new R2 p2 (same_upd ha) (new_lst ha r2 (by have := dList_len q; rw [sizeLine_eq]; simp only at *; omega))
/-- a builtin's call -/
def dCB (f : List Val → Res (Val × Bool)) (ds : List ED) : ED := fun env => dList ds env >>= fun r => f r.1 >>= fun z => .ok (z.1, z.2, r.2)
theorem tE_CB {r : List V → Hp → VK → Prop} {f : List Val → Res (Val × Bool)} (hs : OpSL G.K r f) {σ : L2.St} {H : Hp} {Q : VK} (h : tE G (dCB f ds) σ H Q) : tCB r (tL G ds) σ H Q := by
  obtain ⟨M, env, R, p⟩ := h
  refine Post.bindL R p fun vs e2 xs M2 H2 q x2 R2 r2 p2 => ?_
  exact fin_ans R2 (hs H2 _ vs xs R2.al r2) p2
end
end PV

namespace PV
open PySem PySem.Spec PyProof.Rows L2
open PySem.W (dataLt alike alikeAll lt_data gt_data le_data ge_data AlikeAll minD maxD)

/-! ### defs -/
abbrev Fn := List Val → Res (Val × Bool)
/-- what a def of plain arguments promises -/
def spP (K : PySem.W.Frag) (mg : Str → Option Value) (n : Nat) (F : Fn) : Sp := fun vs H Q E => vs.length = n ∧ ∃ (P : AP) (ws : List Val), (∀ a, P a → H a ≠ none) ∧ RpL K H P ws vs ∧ match F ws with
  | .ok (u, o) => ∀ z H', (∀ a t, H a = some t → H' a = some t) → NewR K H H' P u o z → Q z H'
  | .exc c p => ∀ cls dd H', (∀ a t, H a = some t → H' a = some t) → XOk K mg H' P c p cls dd → E cls dd H'
  | .bad => False
/-- a def whose first argument is a list of the caller's own that it may change -/
abbrev FnH := Val → List Val → Res (Val × Val)
def spH (K : PySem.W.Frag) (n : Nat) (F : FnH) : Sp := fun vs H Q E => vs.length = n ∧ ∃ (P : AP) (a : Addr) (h : Val) (ws : List Val) (xs : List V), vs = .ref a :: xs ∧ (∀ b, P b → H b ≠ none) ∧ ¬ P a ∧ OwnAt K H (or' P (· = a)) a h ∧ RpL K H (or' P (· = a)) ws xs ∧ match F h ws with
  | .ok (u, h') => ∀ z H', (∀ b t, b ≠ a → H b = some t → H' b = some t) → OwnAt K H' (or' P (· = a)) a h' → Rp K H' (or' P (· = a)) u z → Q z H'
  | _ => False

section
variable {X : Cx} {G : Cfg} {ds : List ED} {x : Str} {p pos : Pos} {e : Expr} {es : List Expr} {k n : Nat} {f : Addr} {fd : FuncData} {ps : List Str} {CX : CXT}
theorem tE_call {F : Fn} {σ : L2.St} {H : Hp} {Q : VK} (h : tE G (dCB F ds) σ H Q) (hn : ds.length = n) : tCall (spP G.K G.mg n F) [] G.E (tL G ds) σ H Q := by
  obtain ⟨M, env, R, p⟩ := h
  refine Post.bindL R p fun vs e2 xs M2 H2 q x2 R2 r2 p2 => ?_
  rw [List.append_nil]
  refine ⟨by rw [r2.length, dList_len q]; exact hn, or' G.P M2, vs, R2.al, r2, ?_⟩
  simp only at p2
  cases e : F vs with
  | ok z =>
    obtain ⟨u, o⟩ := z
    rw [e] at p2
    exact fun z H' s nn => fin_new R2 p2 s nn
  | exc c pp =>
    rw [e] at p2
    exact fun cls dd H' s xo => p2 cls dd M2 H' (Ext.same s fun _ m => .inl m) xo
  | bad => rw [e] at p2; exact p2
theorem se_call {F : Fn} (hf : FnOk X.prog X.w X.K X.mg X.base CX k f fd ps (spP G.K G.mg n F)) (hr : Room k X.A) (hg : Gl X x) (hm : X.mg x = some (.ref f)) (hk : PySem.W.keepIn X.K (.ref f) = true) (hb : Binds X.K fd ps []) (hx : Passes CX X G.E)
    (ha : PA X (e :: es) (tL G ds)) (hn : ds.length = n) (hdb : (x == ("__debug__" : Str)) = false) (he : starEach (e :: es) X.env = (false, eval e X.env) :: starEach es X.env) (hpl : (backTo pos (starEach es X.env)).any (·.1) = false) :
    PE X (.Call (.Name x p) (e :: es) [] pos) (tE G (dCB F ds)) := (pe_call hf hr hg hm hk hb .nil hx ha hdb he hpl).pv fun σ H Q h => tE_call h hn
theorem se_call0 {F : Fn} (hf : FnOk X.prog X.w X.K X.mg X.base CX k f fd ps (spP G.K G.mg 0 F)) (hr : Room k X.A) (hg : Gl X x) (hm : X.mg x = some (.ref f)) (hk : PySem.W.keepIn X.K (.ref f) = true) (hb : Binds X.K fd ps []) (hx : Passes CX X G.E)
    (hdb : (x == ("__debug__" : Str)) = false) : PE X (.Call (.Name x p) [] [] pos) (tE G (dCB F [])) := (pe_call0 hf hr hg hm hk hb .nil hx hdb).pv fun σ H Q h => by
  have := tE_call (ds := []) h rfl
  obtain ⟨M, env, R, q⟩ := this
  exact q M H .refl R [] RpL.nil
/-- f(name, ..): the name's list is lent to f -/
def dCallH (F : FnH) (i : Nat) (ds : List ED) : ED := fun env => match env[i]? with
  | some (.own _) => dList ds env >>= fun r => (match r.2[i]? with
    | some (.own h) => (match F h r.1 with
      | .ok z => .ok (z.1, false, r.2.set i (.own z.2))
      | _ => .bad)
    | _ => .bad)
  | _ => .bad
/-- a container of ours is written -/
theorem RelEnv.write {K : PySem.W.Frag} {H H' : Hp} {P M : AP} {σ : L2.St} {env : EnvD} {i : Nat} {v v' : Val} {a : Addr} (R : RelEnv K H P M σ env) (h : env[i]? = some (.own v)) (ea : σ[i]? = some (some (.ref a)))
    (s : ∀ b t, b ≠ a → H b = some t → H' b = some t) (ow : OwnAt K H' (or' P M) a v') : RelEnv K H' P M σ (env.set i (.own v')) ∧ Ext M H M H' := by
  obtain ⟨a', ea', ma, _⟩ := R.slot i _ h
  have : a' = a := by rw [ea] at ea'; cases ea'; rfl
  subst this
  have il : i < env.length := (List.getElem?_eq_some_iff.mp h).1
  have x : Ext M H M H' := ⟨fun b o e n => s b o (fun z => n (by rw [z]; exact ma)) e, fun _ m => .inl m, fun b hb => by
    by_cases z : b = a'
    · subst z; exact ow.ne
    · cases q : H b with
      | none => exact absurd q hb
      | some t => rw [s b t z q]; simp⟩
  refine ⟨⟨by rw [List.length_set]; exact R.len, fun j u e => ?_, fun j k b w w' e1 e2 e3 e4 => ?_, fun b m => x.live b (R.mal b m), fun b m => x.live b (R.pal b m), R.pm⟩, x⟩
  · by_cases hj : i = j
    · subst hj
      rw [List.getElem?_set_self il] at e; cases e
      exact ⟨a', ea, ma, ow⟩
    · rw [List.getElem?_set_ne hj] at e
      have q := R.slot j u e
      cases u with
      | emp => trivial
      | frz w => obtain ⟨y, e', r⟩ := q; exact ⟨y, e', Rp.stay (x.stay R.pal) _ _ r⟩
      | own w =>
        obtain ⟨b, e', mb, r⟩ := q
        have nb : b ≠ a' := fun z => by subst z; exact hj (R.one i j b v w h e ea e')
        have hn := r.ne
        cases hb : H b with
        | none => exact absurd hb hn
        | some t => exact ⟨b, e', mb, r.stay (x.stay R.pal) (by rw [s b t nb hb, hb])⟩
  · have go : ∀ (j : Nat) (w : Val), (env.set i (Slot.own v'))[j]? = some (.own w) → ∃ w', env[j]? = some (.own w') := fun j w e => by
      by_cases hj : i = j
      · subst hj; exact ⟨v, h⟩
      · rw [List.getElem?_set_ne hj] at e; exact ⟨w, e⟩
    obtain ⟨_, g1⟩ := go j w e1
    obtain ⟨_, g2⟩ := go k w' e2
    exact R.one j k b _ _ g1 g2 e3 e4
theorem se_callH {F : FnH} {e0 : Expr} {i : Nat} (hf : FnOk X.prog X.w X.K X.mg X.base CX k f fd ps (spH G.K n F)) (hr : Room k X.A) (hg : Gl X x) (hm : X.mg x = some (.ref f)) (hk : PySem.W.keepIn X.K (.ref f) = true) (hb : Binds X.K fd ps []) (hx : Passes CX X G.E)
    (h0 : PE X e0 (tVar i)) (ha : PA X es (tL G ds)) (hn : ds.length + 1 = n) (hdb : (x == ("__debug__" : Str)) = false) (he : starEach (e0 :: es) X.env = (false, eval e0 X.env) :: starEach es X.env) (hpl : (backTo pos (starEach es X.env)).any (·.1) = false) :
    PE X (.Call (.Name x p) (e0 :: es) [] pos) (tE G (dCallH F i ds)) := (pe_call hf hr hg hm hk hb .nil hx (pa_cons h0 ha he) hdb he hpl).pv fun σ H Q h => by
  obtain ⟨M, env, R, p⟩ := h
  unfold dCallH at p
  split at p
  · rename_i h00 hh0
    obtain ⟨a, ea, _, _⟩ := R.slot i _ hh0
    refine ⟨.ref a, ea, ?_⟩
    refine Post.bindL R p fun vs e2 xs M2 H2 q x2 R2 r2 p2 => ?_
    show spH G.K n F ((V.ref a :: xs) ++ []) H2 Q G.E
    rw [List.append_nil]
    simp only at p2
    split at p2
    · rename_i h hh
      obtain ⟨a', ea', ma, ow⟩ := R2.slot i _ hh
      rw [ea] at ea'
      cases ea'
      have eqA : or' (fun b => or' G.P M2 b ∧ b ≠ a) (· = a) = or' G.P M2 := by
        funext b; simp only [or', eq_iff_iff]
        constructor
        · rintro (⟨h, _⟩ | rfl)
          · exact h
          · exact .inr ma
        · intro h
          by_cases z : b = a
          · exact .inr z
          · exact .inl ⟨h, z⟩
      refine ⟨by rw [List.length_cons, r2.length, dList_len q]; exact hn, fun b => or' G.P M2 b ∧ b ≠ a, a, h, vs, xs, rfl, fun b hb => R2.al b hb.1, fun hb => hb.2 rfl, by rw [eqA]; exact ow, by rw [eqA]; exact r2, ?_⟩
      cases e : F h vs with
      | ok z =>
        obtain ⟨u, h'⟩ := z
        rw [e] at p2
        intro z H' s ow' ru
        rw [eqA] at ow' ru
        obtain ⟨R3, x3⟩ := R2.write hh ea s ow'
        exact p2 M2 H' x3 R3 z ru
      | exc c pp => rw [e] at p2; exact p2
      | bad => rw [e] at p2; exact p2
    · exact p2.elim
  · exact p.elim
end

/-! ### statements -/
inductive SR where
  | nx (env : EnvD) | brk (env : EnvD) | cnt (env : EnvD) | ret (v : Val) (o : Bool) (env : EnvD)
abbrev SD := EnvD → Res SR
/-- a slot that keeps its value through a def's body -/
abbrev Pin := Option (Nat × V)
def Pinned (pin : Pin) (σ : L2.St) : Prop := ∀ i x, pin = some (i, x) → σ[i]? = some (some x)
def okS (G : Cfg) (pin : Pin) (D : Ends) : SR → AP → Hp → Prop
  | .nx env, M, H => ∀ σ, RelEnv G.K H G.P M σ env → Pinned pin σ → D.nx σ H
  | .brk env, M, H => ∀ σ, RelEnv G.K H G.P M σ env → Pinned pin σ → D.bk σ H
  | .cnt env, M, H => ∀ σ, RelEnv G.K H G.P M σ env → Pinned pin σ → D.ct σ H
  | .ret v o env, M, H => ∀ σ x, RelEnv G.K H G.P M σ env → Pinned pin σ → RpR G.K H G.P M σ env v o x → D.rt x H
def tS (G : Cfg) (pin : Pin) (d : SD) : TS := fun D σ H => ∃ M env, RelEnv G.K H G.P M σ env ∧ Pinned pin σ ∧ Post G M H (okS G pin D) (d env)
def sNil : SD := fun env => .ok (.nx env)
def sSeq (d e : SD) : SD := fun env => d env >>= fun r => match r with
  | .nx env => e env
  | r => .ok r
def sExpr (d : ED) : SD := fun env => d env >>= fun a => .ok (.nx a.2.2)
def sRet (d : ED) : SD := fun env => d env >>= fun a => .ok (.ret a.1 a.2.1 a.2.2)
/-- .. given up -/
def sRetF (d : ED) : SD := fun env => d env >>= fun a => .ok (.ret a.1 false a.2.2)
def sRetN : SD := fun env => .ok (.ret .non false env)
def sIf (t : TD) (d e : SD) : SD := fun env => t env >>= fun r => if r.1 then d r.2 else e r.2
def sBrk : SD := fun env => .ok (.brk env)
def sCnt : SD := fun env => .ok (.cnt env)
section
variable {X : Cx} {G : Cfg} {pin : Pin} {st : Stmt} {rest : List Stmt} {e : Expr} {d : ED} {d1 d2 : SD} {td : TD} {pos : Pos} {D : Ends} {M : AP} {H : Hp} {σ : L2.St} {env : EnvD}
theorem Post.endN (R : RelEnv G.K H G.P M σ env) (hp : Pinned pin σ) (p : Post G M H (okS G pin D) (.ok (.nx env))) : D.nx σ H := p M H .refl σ R hp
theorem Post.ends {r : SR} (p : Post G M H (okS G pin D) (.ok r)) {M' : AP} {H' : Hp} (e : Ext M H M' H') : okS G pin D r M' H' := p M' H' e
theorem ss_nil : PSs X [] (tS G pin sNil) := pss_nil.pv fun D σ H ⟨M, env, R, hp, p⟩ => p.endN R hp
theorem tS_seq {t u : TS} (h1 : ∀ D σ H, tS G pin d1 D σ H → t D σ H) (h2 : ∀ D σ H, tS G pin d2 D σ H → u D σ H) : ∀ D σ H, tS G pin (sSeq d1 d2) D σ H → tSeq t u D σ H := fun D σ H ⟨M, env, R, hp, p⟩ => by
  refine h1 _ σ H ⟨M, env, R, hp, ?_⟩
  unfold sSeq at p
  cases q : d1 env with
  | ok r =>
    rw [q] at p
    intro M' H' x
    have p' := Post.mono p x
    cases r with
    | nx e1 => exact fun σ1 R1 hp1 => h2 D σ1 H' ⟨M', e1, R1, hp1, p'⟩
    | brk e1 => exact p'.ends .refl
    | cnt e1 => exact p'.ends .refl
    | ret v o e1 => exact p'.ends .refl
  | exc c pp => rw [q] at p; exact p
  | bad => rw [q] at p; exact p
theorem ss_cons (h1 : PS X st (tS G pin d1)) (h2 : PSs X rest (tS G pin d2)) : PSs X (st :: rest) (tS G pin (sSeq d1 d2)) := (pss_cons h1 h2).pv (tS_seq (fun _ _ _ h => h) fun _ _ _ h => h)
theorem ss_one (h1 : PS X st (tS G pin d1)) : PSs X [st] (tS G pin d1) := pss_one h1
theorem ss_pass : PS X (.Pass pos) (tS G pin sNil) := ps_pass.pv fun D σ H ⟨M, env, R, hp, p⟩ => p.endN R hp
theorem ss_brk : PS X (.Break pos) (tS G pin sBrk) := ps_break.pv fun D σ H ⟨M, env, R, hp, p⟩ => p M H .refl σ R hp
theorem ss_cnt : PS X (.Continue pos) (tS G pin sCnt) := ps_continue.pv fun D σ H ⟨M, env, R, hp, p⟩ => p M H .refl σ R hp
theorem ss_expr (he : PE X e (tE G d)) (hs : swapsWith e none pos.line X.env = pure false) : PS X (.Expr e pos) (tS G pin (sExpr d)) := (ps_expr he hs).pv fun D σ H ⟨M, env, R, hp, p⟩ =>
  Post.bindE R p fun v o e1 x M1 H1 x1 R1 r1 p1 => p1.endN R1 hp
theorem ss_ret (he : PE X e (tE G d)) : PS X (.Return (some e) pos) (tS G pin (sRet d)) := (ps_ret he).pv fun D σ H ⟨M, env, R, hp, p⟩ =>
  Post.bindE R p fun v o e1 x M1 H1 x1 R1 r1 p1 => p1 M1 H1 .refl σ x R1 hp r1
theorem ss_retF (he : PE X e (tE G d)) : PS X (.Return (some e) pos) (tS G pin (sRetF d)) := (ps_ret he).pv fun D σ H ⟨M, env, R, hp, p⟩ =>
  Post.bindF R p fun v o e1 x M1 H1 x1 R1 r1 p1 => p1 M1 H1 .refl σ x R1 hp r1
theorem ss_retN : PS X (.Return none pos) (tS G pin sRetN) := ps_retN.pv fun D σ H ⟨M, env, R, hp, p⟩ => p M H .refl σ .non R hp (show Rp _ _ _ _ _ from rp_non.mpr rfl)
theorem ss_if {c : Expr} {a b : List Stmt} (hc : PT X c (tT G td)) (ha : PSs X a (tS G pin d1)) (hb : PSs X b (tS G pin d2)) : PS X (.If c a b pos) (tS G pin (sIf td d1 d2)) := (ps_if hc ha hb).pv fun D σ H ⟨M, env, R, hp, p⟩ => by
  refine Post.bindT R p fun c e1 M1 H1 x1 R1 p1 => ?_
  cases c with
  | true => exact ⟨M1, e1, R1, hp, p1⟩
  | false => exact ⟨M1, e1, R1, hp, p1⟩
end

/-! ### targets -/
/-- a target takes a shared value; it writes the slots ws -/
abbrev GD := Val → EnvD → Res EnvD
def Else (ws : List Nat) (σ σ' : L2.St) : Prop := σ'.length = σ.length ∧ ∀ j, j ∉ ws → σ'[j]? = σ[j]?
theorem Else.refl {ws : List Nat} {σ : L2.St} : Else ws σ σ := ⟨rfl, fun _ _ => rfl⟩
theorem Else.trans {ws vs : List Nat} {σ σ1 σ2 : L2.St} (a : Else ws σ σ1) (b : Else vs σ1 σ2) : Else (ws ++ vs) σ σ2 :=
  ⟨b.1.trans a.1, fun j h => (b.2 j fun z => h (List.mem_append_right _ z)).trans (a.2 j fun z => h (List.mem_append_left _ z))⟩
def okG (G : Cfg) (ws : List Nat) (σ : L2.St) (Q : L2.St → Hp → Prop) : EnvD → AP → Hp → Prop := fun env M H => ∀ σ', RelEnv G.K H G.P M σ' env → Else ws σ σ' → Q σ' H
def tG (G : Cfg) (ws : List Nat) (d : GD) : TG := fun x σ H Q => ∃ M env v, RelEnv G.K H G.P M σ env ∧ Rp G.K H (or' G.P M) v x ∧ Post G M H (okG G ws σ Q) (d v env)
abbrev GDs := List Val → EnvD → Res EnvD
def tGs (G : Cfg) (ws : List Nat) (d : GDs) : TGs := fun xs σ H Q => ∃ M env vs, RelEnv G.K H G.P M σ env ∧ RpL G.K H (or' G.P M) vs xs ∧ Post G M H (okG G ws σ Q) (d vs env)
def gN (i : Nat) : GD := fun v env => .ok (env.set i (.frz v))
def gsNil : GDs := fun vs env => match vs with
  | [] => .ok env
  | _ => .bad
def gsCons (d : GD) (ds : GDs) : GDs := fun vs env => match vs with
  | v :: vs => d v env >>= fun env => ds vs env
  | [] => .bad
def gT (n : Nat) (ds : GDs) : GD := fun v env => match v with
  | .tup vs => if vs.length = n then ds vs env else .bad
  | _ => .bad
theorem _root_.L2.PG.pv {X : Cx} {e : Expr} {t t' : TG} (h : PG X e t) (w : ∀ x σ H Q, t' x σ H Q → t x σ H Q) : PG X e t' := ⟨fun pins s σ H v u Q I r q => h.run pins s σ H v u Q I r (w v σ H Q q)⟩
theorem _root_.L2.PGs.pv {X : Cx} {e : List Expr} {t t' : TGs} (h : PGs X e t) (w : ∀ x σ H Q, t' x σ H Q → t x σ H Q) : PGs X e t' := ⟨fun pins s σ H v u Q I r q => h.run pins s σ H v u Q I r (w v σ H Q q)⟩
section
variable {X : Cx} {G : Cfg} {pin : Pin} {e : Expr} {es : List Expr} {d : GD} {ds : GDs} {pos : Pos}
theorem RelEnv.setBoth {K : PySem.W.Frag} {H : Hp} {P M : AP} {σ : L2.St} {env : EnvD} {i : Nat} {t : Slot} {y : Option V} (R : RelEnv K H P M σ env) (no : ∀ v, t ≠ .own v) (h : i < σ.length → SlotOk K H P M (σ.set i y) i t) : RelEnv K H P M (σ.set i y) (env.set i t) := by
  refine ⟨by rw [List.length_set, List.length_set]; exact R.len, fun j u e => ?_, fun j k a v w e1 e2 e3 e4 => ?_, R.mal, R.pal, R.pm⟩
  · by_cases hj : i = j
    · subst hj
      by_cases hl : i < env.length
      · rw [List.getElem?_set_self hl] at e; cases e; exact h (by rw [← R.len]; exact hl)
      · rw [List.getElem?_eq_none (by simpa using hl)] at e; cases e
    · rw [List.getElem?_set_ne hj] at e
      have q := R.slot j u e
      cases u with
      | emp => trivial
      | frz v => obtain ⟨x, e', r⟩ := q; exact ⟨x, by rw [List.getElem?_set_ne hj]; exact e', r⟩
      | own v => obtain ⟨a, e', r⟩ := q; exact ⟨a, by rw [List.getElem?_set_ne hj]; exact e', r⟩
  · have go : ∀ (j : Nat) (v : Val), (env.set i t)[j]? = some (.own v) → env[j]? = some (.own v) ∧ j ≠ i := fun j v e => by
      by_cases hj : i = j
      · subst hj
        by_cases hl : i < env.length
        · rw [List.getElem?_set_self hl] at e; exact absurd (Option.some.inj e) (no v)
        · rw [List.getElem?_eq_none (by simpa using hl)] at e; cases e
      · rw [List.getElem?_set_ne hj] at e; exact ⟨e, fun z => hj z.symm⟩
    obtain ⟨g1, n1⟩ := go j v e1
    obtain ⟨g2, n2⟩ := go k w e2
    rw [List.getElem?_set_ne (fun z => n1 z.symm)] at e3
    rw [List.getElem?_set_ne (fun z => n2 z.symm)] at e4
    exact R.one j k a v w g1 g2 e3 e4
theorem RelEnv.bindF {K : PySem.W.Frag} {H : Hp} {P M : AP} {σ : L2.St} {env : EnvD} {i : Nat} {v : Val} {x : V} (R : RelEnv K H P M σ env) (r : Rp K H (or' P M) v x) : RelEnv K H P M (σ.set i (some x)) (env.set i (.frz v)) :=
  R.setBoth (fun _ z => nomatch z) fun hi => ⟨x, List.getElem?_set_self hi, r⟩
def NoPin (pin : Pin) (i : Nat) : Prop := ∀ j x, pin = some (j, x) → j ≠ i
theorem Pinned.set {σ : L2.St} {i : Nat} {y : Option V} (h : Pinned pin σ) (n : NoPin pin i) : Pinned pin (σ.set i y) := fun j x e => by
  rw [List.getElem?_set_ne (fun z => n j x e z.symm)]; exact h j x e
/-- the pin is none of these -/
def NoPins (pin : Pin) (ws : List Nat) : Prop := ∀ j x, pin = some (j, x) → j ∉ ws
theorem Pinned.els {σ σ' : L2.St} {ws : List Nat} (h : Pinned pin σ) (n : NoPins pin ws) (e : Else ws σ σ') : Pinned pin σ' := fun j x q => by
  rw [e.2 j (n j x q)]; exact h j x q
theorem sg_name {i : Nat} {x : Str} (hN : X.N.Nodup) (hi : X.N[i]? = some x) (hx : Loc X.env.scope x) (hf : X.fn x = true ∨ X.env.scope.names.lookup x = some .local) : PG X (.Name x pos) (tG G [i] (gN i)) :=
  (pg_name hN hi hx hf).pv fun x σ H Q ⟨M, env, v, R, r, p⟩ => p M H .refl _ (R.bindF r) ⟨by rw [List.length_set], fun j h => List.getElem?_set_ne fun z => h (by simp [z])⟩
theorem sgs_nil : PGs X [] (tGs G [] gsNil) := pgs_nil.pv fun xs σ H Q ⟨M, env, vs, R, r, p⟩ => by
  cases vs with
  | nil => rw [rpl_nil] at r; exact ⟨r, p M H .refl σ R .refl⟩
  | cons v vs => exact p.elim
theorem sgs_cons {w1 w2 : List Nat} (h1 : PG X e (tG G w1 d)) (h2 : PGs X es (tGs G w2 ds)) (hs : (assignEach (e :: es) X.env).map (·.2) = assign e X.env :: (assignEach es X.env).map (·.2)) : PGs X (e :: es) (tGs G (w1 ++ w2) (gsCons d ds)) := (pgs_cons h1 h2 hs).pv fun xs σ H Q ⟨M, env, vs, R, r, p⟩ => by
  cases vs with
  | nil => exact p.elim
  | cons v vs =>
    rw [rpl_cons] at r
    obtain ⟨x, xr, rfl, r1, r2⟩ := r
    refine ⟨x, xr, rfl, M, env, v, R, r1, ?_⟩
    unfold gsCons at p
    simp only at p
    cases q : d v env with
    | ok e1 =>
      rw [q] at p
      refine fun M' H' ex σ' R' el => ⟨M', e1, vs, R', RpL.stay (ex.stay R.pal) _ _ r2, ?_⟩
      have p' := Post.mono p ex
      simp only [res_ok_bind] at p'
      revert p'
      cases ds vs e1 with
      | ok e2 => exact fun p' M2 H2 x2 σ2 R2 el2 => p' M2 H2 x2 σ2 R2 (el.trans el2)
      | exc c pp => exact fun p' => p'
      | bad => exact fun p' => p'
    | exc c pp => rw [q] at p; exact p
    | bad => rw [q] at p; exact p
theorem sg_tup {ws : List Nat} {k n : Nat} (hc : X.calm = true) (hK : X.K = G.K) (h : PGs X es (tGs G ws ds)) (hn : (assignEach es X.env).length = n) (hst : (assignEach es X.env).findIdx? (·.1) = none) : PG X (.Tuple es k pos) (tG G ws (gT n ds)) := (pg_tup hc h hn hst).pv fun x σ H Q ⟨M, env, v, R, r, p⟩ => by
  cases v <;> try exact p.elim
  rename_i vs
  rw [rp_tup] at r
  obtain ⟨a, xs, rfl, na, ha, l, z⟩ := r
  change Post G M H (okG G ws σ Q) (if vs.length = n then ds vs env else .bad) at p
  split at p
  · rename_i e
    exact ⟨a, xs, rfl, SqT.of ha, by rw [l.length]; exact e, M, env, vs, R, l, p⟩
  · exact p.elim
/-- target = e -/
def sAsg (d : ED) (g : GD) : SD := fun env => d env >>= fun a => g a.1 a.2.2 >>= fun env => .ok (.nx env)
theorem tS_asg {dd : ED} {ws : List Nat} (np : NoPins pin ws) : ∀ D σ H, tS G pin (sAsg dd d) D σ H → tAsg (tE G dd) (tG G ws d) D σ H := fun D σ H ⟨M, env, R, hp, p⟩ => by
  refine Post.bindF R p fun v o e1 x M1 H1 x1 R1 r1 p1 => ⟨M1, e1, v, R1, r1, ?_⟩
  simp only at p1
  cases q : d v e1 with
  | ok e2 => rw [q] at p1; exact fun M' H' ex σ' R' el => p1 M' H' ex σ' R' (hp.els np el)
  | exc c pp => rw [q] at p1; exact p1
  | bad => rw [q] at p1; exact p1
theorem ss_asg {tg : Expr} {dd : ED} {ws : List Nat} (np : NoPins pin ws) (he : PE X e (tE G dd)) (hg : PG X tg (tG G ws d)) (hs : swapsWithSole [tg] e pos.line X.env = pure false) (hw : swappedStores [tg] e X.env = pure none) (h1 : (assignEach [tg] X.env).map (·.2) = [assign tg X.env]) :
    PS X (.Assign [tg] e pos) (tS G pin (sAsg dd d)) := (ps_asg he hg hs hw h1).pv (tS_asg np)
/-- name = e, the name's own if it is new -/
def sOwn (d : ED) (i : Nat) : SD := fun env => d env >>= fun a => .ok (.nx (a.2.2.set i (if a.2.1 then .own a.1 else .frz a.1)))
theorem RelEnv.bindO {K : PySem.W.Frag} {H : Hp} {P M : AP} {σ : L2.St} {env : EnvD} {i : Nat} {v : Val} {a : Addr} (R : RelEnv K H P M σ env) (ma : M a) (ow : OwnAt K H (or' P M) a v)
    (no : ∀ (j : Nat) (w : Val), env[j]? = some (.own w) → σ[j]? ≠ some (some (.ref a))) : RelEnv K H P M (σ.set i (some (.ref a))) (env.set i (.own v)) := by
  have base := R.setBoth (i := i) (t := .emp) (y := some (.ref a)) (fun _ z => nomatch z) fun _ => trivial
  refine ⟨by rw [List.length_set, List.length_set]; exact R.len, fun j u e => ?_, fun j k b w w' e1 e2 e3 e4 => ?_, R.mal, R.pal, R.pm⟩
  · by_cases hj : i = j
    · subst hj
      by_cases hl : i < env.length
      · rw [List.getElem?_set_self hl] at e; cases e
        exact ⟨a, List.getElem?_set_self (by rw [← R.len]; exact hl), ma, ow⟩
      · rw [List.getElem?_eq_none (by simpa using hl)] at e; cases e
    · rw [List.getElem?_set_ne hj] at e
      exact base.slot j u (by rw [List.getElem?_set_ne hj]; exact e)
  · by_cases hj : i = j
    · by_cases hk : i = k
      · rw [← hj, hk]
      · subst hj
        rw [List.getElem?_set_ne hk] at e2 e4
        by_cases hl : i < env.length
        · rw [List.getElem?_set_self (by rw [← R.len]; exact hl)] at e3; cases e3
          exact absurd e4 (no k _ e2)
        · rw [List.getElem?_eq_none (by simpa using hl)] at e1; cases e1
    · by_cases hk : i = k
      · subst hk
        rw [List.getElem?_set_ne hj] at e1 e3
        by_cases hl : i < env.length
        · rw [List.getElem?_set_self (by rw [← R.len]; exact hl)] at e4; cases e4
          exact absurd e3 (no j _ e1)
        · rw [List.getElem?_eq_none (by simpa using hl)] at e2; cases e2
      · rw [List.getElem?_set_ne hj] at e1 e3
        rw [List.getElem?_set_ne hk] at e2 e4
        exact R.one j k b w w' e1 e2 e3 e4
theorem tS_own {dd : ED} {i : Nat} (np : NoPin pin i) : ∀ D σ H, tS G pin (sOwn dd i) D σ H → tAsg (tE G dd) (gName i) D σ H := fun D σ H ⟨M, env, R, hp, p⟩ => by
  refine Post.bindE R p fun v o e1 x M1 H1 x1 R1 r1 p1 => ?_
  show D.nx (σ.set i (some x)) H1
  cases o with
  | false => exact p1.endN (R1.bindF r1) (hp.set np)
  | true =>
    obtain ⟨a, rfl, ma, ow, no⟩ := r1
    exact p1.endN (R1.bindO ma ow no) (hp.set np)
theorem ss_own {dd : ED} {i : Nat} {x : Str} {pos' : Pos} (hN : X.N.Nodup) (hi : X.N[i]? = some x) (hx : Loc X.env.scope x) (hf : X.fn x = true ∨ X.env.scope.names.lookup x = some .local) (np : NoPin pin i) (he : PE X e (tE G dd))
    (hs : swapsWith e (some (.Name x pos')) pos.line X.env = pure false) : PS X (.Assign [.Name x pos'] e pos) (tS G pin (sOwn dd i)) := (ps_set hN hi hx he hs hf).pv (tS_own np)
end
end PV

namespace PV
open PySem PySem.Spec PyProof.Rows L2
open PySem.W (dataLt alike alikeAll lt_data gt_data le_data ge_data AlikeAll minD maxD)

/-! ### name[i] = e -/
def rSetV : TSet := fun o i v H Q => rSetL o i v H Q ∨ ∃ a H', o = .ref a ∧ DPut H a i v H' ∧ Q H'
theorem set_V {X : Cx} (hu : X.A.units + 1 < cLine) : PSet X rSetV := by
  intro pins s σ H o i v ov iv u Q I ro ri rv h
  rcases h with h | ⟨a, H', rfl, g, q⟩
  · exact set_list pins s σ H o i v ov iv u Q I ro ri rv h
  · obtain rfl : ov = Value.ref a := ro
    exact d_setItem hu I g ri rv fun s4 I4 => ⟨H', I4, q⟩
def setV : Val → Val → Val → Option Val
  | .lst vs, .int k, w => (ixN vs.length k).map fun j => .lst (vs.set j w)
  | .dK kvs, k, w => (toKey k).bind fun k => if kvs.length < sizeLine then some (.dK (putV kvs k w)) else none
  | .dT kvs, .tup ks, w => (toKeys ks).bind fun ks => if kvs.length < sizeLine then some (.dT (putV kvs ks w)) else none
  | _, _, _ => none
theorem putV_length {κ : Type} [DecidableEq κ] (kvs : List (κ × Val)) (k : κ) (v : Val) (h : kvs.length < sizeLine) : (putV kvs k v).length ≤ sizeLine := by
  unfold putV
  split
  · rw [List.length_map]; omega
  · rw [List.length_append]; simp; omega
theorem setV_ok {K : PySem.W.Frag} {H : Hp} {A : AP} {a : Addr} {c k w c' : Val} {y z : V} (ha : A a) (h : setV c k w = some c') (ow : OwnAt K H A a c) (hk : Rp K H A k y) (hw : Rp K H A w z) :
    ∃ H', (∀ Q : Hp → Prop, Q H' → rSetV (.ref a) y z H Q) ∧ (∀ b t, b ≠ a → H b = some t → H' b = some t) ∧ OwnAt K H' A a c' := by
  have st : ∀ {o : HO}, Stay H A (upd H a o) A := fun b t e n => ⟨by rw [upd_ne (fun q => n (by rw [q]; exact ha))]; exact e, n⟩
  have sm : ∀ {o : HO}, ∀ b t, b ≠ a → H b = some t → upd H a o b = some t := fun b t n e => by rw [upd_ne n]; exact e
  cases c <;> try (cases h; done)
  case lst vs =>
    cases k <;> try (cases h; done)
    rename_i k
    rw [rp_int] at hk; subst hk
    obtain ⟨xs, hx, l, zl⟩ := ow
    change (ixN vs.length k).map (fun j => Val.lst (vs.set j w)) = _ at h
    cases e : ixN vs.length k with
    | none => rw [e] at h; cases h
    | some j =>
      rw [e] at h; cases h
      exact ⟨_, fun Q q => .inl ⟨a, xs, k, j, rfl, rfl, hx, by rw [l.length]; exact e, q⟩, sm, xs.set j z, upd_same, RpL.stay st _ _ (RpL.set hw j l), by rw [List.length_set]; exact zl⟩
  case dK kvs =>
    obtain ⟨xs, hx, l, zl⟩ := ow
    change (toKey k).bind (fun k => if kvs.length < sizeLine then some (Val.dK (putV kvs k w)) else none) = _ at h
    cases e : toKey k with
    | none => rw [e] at h; cases h
    | some j =>
      rw [e] at h
      simp only [Option.bind_some] at h
      split at h
      · rename_i hl
        cases h
        exact ⟨_, fun Q q => .inr ⟨a, _, rfl, .inl ⟨xs, j, hx, toKey_rp e hk, by rw [l.length]; exact hl, rfl⟩, q⟩, sm, _, upd_same, RpK.stay st _ _ (RpK.put j hw l), putV_length _ _ _ hl⟩
      · cases h
  case dT kvs =>
    cases k <;> try (cases h; done)
    rename_i ks
    obtain ⟨xs, hx, l, zl⟩ := ow
    rw [rp_tup] at hk
    obtain ⟨b, ys, rfl, nb, hb, l2, _⟩ := hk
    change (toKeys ks).bind (fun ks => if kvs.length < sizeLine then some (Val.dT (putV kvs ks w)) else none) = _ at h
    cases e : toKeys ks with
    | none => rw [e] at h; cases h
    | some j =>
      rw [e] at h
      simp only [Option.bind_some] at h
      split at h
      · rename_i hl
        cases h
        have ey := toKeys_rp e l2
        subst ey
        exact ⟨_, fun Q q => .inr ⟨a, _, rfl, .inr ⟨xs, j, b, hx, rfl, hb, by rw [l.length]; exact hl, rfl⟩, q⟩, sm, _, upd_same, RpT.stay st _ _ (RpT.put j hw l), putV_length _ _ _ hl⟩
      · cases h
/-- name[e] = e' -/
def sSet (i : Nat) (di dv : ED) : SD := fun env => dv env >>= fun v => match v.2.2[i]? with
  | some (.own _) => di v.2.2 >>= fun k => (match k.2.2[i]? with
    | some (.own c) => (match setV c k.1 v.1 with
      | some c => .ok (.nx (k.2.2.set i (.own c)))
      | none => .bad)
    | _ => .bad)
  | _ => .bad
/-- name op= e, of ints -/
def oAug (g : Int → Int → Int) : Val → Val → Option Val
  | .int i, .int j => some (.int (g i j))
  | _, _ => none
def sAug (i : Nat) (g : Int → Int → Int) (d : ED) : SD := fun env => match env[i]? with
  | some (.frz v) => d env >>= fun w => (match oAug g v w.1 with
    | some u => .ok (.nx (w.2.2.set i (.frz u)))
    | none => .bad)
  | _ => .bad
section
variable {X : Cx} {G : Cfg} {pin : Pin} {e i : Expr} {d di dv : ED} {pos pos' : Pos}
theorem ss_set {j : Nat} {o : Expr} (hu : X.A.units + 1 < cLine) (ho : PE X o (tVar j)) (hi : PE X i (tE G di)) (hv : PE X e (tE G dv))
    (ha : ∀ v, assign (.Subscript o i pos') X.env v = (do
      let ov ← holding [v] (eval o X.env)
      let iv ← holding [v, ov] (eval i X.env)
      standAt pos'
      holding [v, ov, iv] (setItem ov iv v)
      release [v, ov, iv] []))
    (hs : swapsWithSole [.Subscript o i pos'] e pos.line X.env = pure false) (hw : swappedStores [.Subscript o i pos'] e X.env = pure none) (h1 : (assignEach [.Subscript o i pos'] X.env).map (·.2) = [assign (.Subscript o i pos') X.env]) :
    PS X (.Assign [.Subscript o i pos'] e pos) (tS G pin (sSet j di dv)) := (ps_asg hv (pg_sub ho hi (set_V hu) ha) hs hw h1).pv fun D σ H ⟨M, env, R, hp, p⟩ => by
  refine Post.bindF R p fun w ow e1 z M1 H1 x1 R1 r1 p1 => ?_
  simp only at p1
  split at p1
  · rename_i c0 h0
    obtain ⟨a, ea, _, _⟩ := R1.slot j _ h0
    refine ⟨.ref a, ea, ?_⟩
    refine Post.bindF R1 p1 fun k ok e2 y M2 H2 x2 R2 r2 p2 => ?_
    simp only at p2
    split at p2
    · rename_i c hc
      obtain ⟨a', ea', ma, oa⟩ := R2.slot j _ hc
      rw [ea] at ea'
      cases ea'
      have r1' := Rp.stay (x2.stay R1.pal) _ _ r1
      cases q : setV c k w with
      | some c' =>
        rw [q] at p2
        obtain ⟨H3, f1, f2, f3⟩ := setV_ok (.inr ma) q oa r2 r1'
        obtain ⟨R3, x3⟩ := R2.write hc ea f2 f3
        exact f1 _ (p2 M2 H3 x3 σ R3 hp)
      | none => rw [q] at p2; exact p2.elim
    · exact p2.elim
  · exact p1.elim
theorem ss_aug {op : Operator} {g : Int → Int → Int} {j : Nat} {x : Str} (hN : X.N.Nodup) (hi : X.N[j]? = some x) (hx : Loc X.env.scope x) (hf : X.fn x = true ∨ X.env.scope.names.lookup x = some .local) (np : NoPin pin j) (he : PE X e (tE G d)) (ho : PIp X op (ipI g)) :
    PS X (.AugAssign (.Name x pos') op e pos) (tS G pin (sAug j g d)) := (ps_aug hN hi hx he ho hf).pv fun D σ H ⟨M, env, R, hp, p⟩ => by
  unfold sAug at p
  split at p
  · rename_i v hv
    obtain ⟨x0, e0, r0⟩ := R.slot j _ hv
    refine ⟨x0, e0, ?_⟩
    refine Post.bindF R p fun w ow e1 z M1 H1 x1 R1 r1 p1 => ?_
    simp only at p1
    cases v <;> try exact p1.elim
    cases w <;> try exact p1.elim
    rename_i a b
    rw [rp_int] at r0 r1; subst r0 r1
    exact ⟨a, b, rfl, rfl, p1 M1 H1 .refl _ (R1.bindF (rp_int.mpr rfl)) (hp.set np)⟩
  · exact p.elim

/-! ### methods of a list of ours -/
def dApp (i : Nat) (d : ED) : ED := fun env => match env[i]? with
  | some (.own (.lst _)) => d env >>= fun a => (match a.2.2[i]? with
    | some (.own (.lst vs)) => if vs.length < sizeLine then .ok (.non, false, a.2.2.set i (.own (.lst (vs ++ [a.1])))) else .bad
    | _ => .bad)
  | _ => .bad
def dExt (i : Nat) (d : ED) : ED := fun env => match env[i]? with
  | some (.own (.lst _)) => d env >>= fun a => (match a.2.2[i]?, a.1 with
    | some (.own (.lst vs)), .lst ws => if vs.length + ws.length ≤ sizeLine then .ok (.non, false, a.2.2.set i (.own (.lst (vs ++ ws)))) else .bad
    | _, _ => .bad)
  | _ => .bad
def dPop (i : Nat) : ED := fun env => match env[i]? with
  | some (.own (.lst vs)) => (match vs.getLast? with
    | some v => .ok (v, false, env.set i (.own (.lst vs.dropLast)))
    | none => .bad)
  | _ => .bad
theorem st_own {H : Hp} {A : AP} {a : Addr} {o : HO} (ha : A a) : Stay H A (upd H a o) A := fun b t e n => ⟨by rw [upd_ne (fun q => n (by rw [q]; exact ha))]; exact e, n⟩
theorem sm_own {H : Hp} {a : Addr} {o : HO} : ∀ b t, b ≠ a → H b = some t → upd H a o b = some t := fun b t n e => by rw [upd_ne n]; exact e
theorem tyV_list {K : PySem.W.Frag} {a : Addr} {H : Hp} {xs : List V} (h : H a = some (.lst xs)) : tyV K "list" (.ref a) H := Or.inl ⟨rfl, _, SqL.of h⟩
theorem RpL.last {K : PySem.W.Frag} {H : Hp} {A : AP} {vs : List Val} {xs : List V} {v : Val} (l : RpL K H A vs xs) (e : vs.getLast? = some v) : ∃ x, xs[xs.length - 1]? = some x ∧ Rp K H A v x := by
  rw [List.getLast?_eq_getElem?] at e
  rw [l.length]
  exact l.get e
theorem RpL.dropLast {K : PySem.W.Frag} {H : Hp} {A : AP} {vs : List Val} {xs : List V} (l : RpL K H A vs xs) : RpL K H A vs.dropLast xs.dropLast := by
  rw [List.dropLast_eq_take, List.dropLast_eq_take, l.length]
  exact l.take _
theorem se_app {j : Nat} {o : Expr} {apos : Pos} (ho : PE X o (tVar j)) (he : PE X e (tE G d)) (hP : ∀ {to : TE} {t : TA}, PE X o to → PA X [e] t → PE X (.Call (.Attribute o "append" apos) [e] [] pos) (tBM X.K "list" rAppend to t))
    (hs : starEach [e] X.env = (false, eval e X.env) :: starEach [] X.env) : PE X (.Call (.Attribute o "append" apos) [e] [] pos) (tE G (dApp j d)) := (hP ho (pa_cons he pa_nil hs)).pv fun σ H Q ⟨M, env, R, p⟩ => by
  unfold dApp at p
  split at p
  · rename_i c0 h0
    obtain ⟨a, ea, ma0, xs0, hx0, _⟩ := R.slot j _ h0
    refine ⟨.ref a, ea, tyV_list hx0, ?_⟩
    refine Post.bindF R p fun v o e1 x M1 H1 x1 R1 r1 p1 => ?_
    simp only at p1
    split at p1
    · rename_i vs hc
      obtain ⟨a', ea', ma, xs, hx, l, zl⟩ := R1.slot j _ hc
      rw [ea] at ea'; cases ea'
      split at p1
      · rename_i hl
        have A1 : or' G.P M1 a := .inr ma
        obtain ⟨R3, x3⟩ := R1.write (v' := .lst (vs ++ [v])) hc ea sm_own ⟨xs ++ [x], upd_same, RpL.stay (st_own A1) _ _ (l.append (RpL.one r1)), by rw [List.length_append]; exact hl⟩
        exact ⟨a, xs, x, rfl, rfl, hx, by rw [l.length]; exact hl, p1 M1 _ x3 R3 .non (show Rp _ _ _ _ _ from rp_non.mpr rfl)⟩
      · exact p1.elim
    · exact p1.elim
  · exact p.elim
theorem se_ext {j : Nat} {o : Expr} {apos : Pos} (ho : PE X o (tVar j)) (he : PE X e (tE G d)) (hP : ∀ {to : TE} {t : TA}, PE X o to → PA X [e] t → PE X (.Call (.Attribute o "extend" apos) [e] [] pos) (tBM X.K "list" rExtend to t))
    (hs : starEach [e] X.env = (false, eval e X.env) :: starEach [] X.env) : PE X (.Call (.Attribute o "extend" apos) [e] [] pos) (tE G (dExt j d)) := (hP ho (pa_cons he pa_nil hs)).pv fun σ H Q ⟨M, env, R, p⟩ => by
  unfold dExt at p
  split at p
  · rename_i c0 h0
    obtain ⟨a, ea, ma0, xs0, hx0, _⟩ := R.slot j _ h0
    refine ⟨.ref a, ea, tyV_list hx0, ?_⟩
    refine Post.bindF R p fun v o e1 x M1 H1 x1 R1 r1 p1 => ?_
    simp only at p1
    split at p1
    · rename_i vs ws hc
      obtain ⟨a', ea', ma, xs, hx, l, zl⟩ := R1.slot j _ hc
      rw [ea] at ea'; cases ea'
      rw [rp_lst] at r1
      obtain ⟨b, ys, rfl, nb, hb, l2, z2⟩ := r1
      split at p1
      · rename_i hl
        have A1 : or' G.P M1 a := .inr ma
        obtain ⟨R3, x3⟩ := R1.write (v' := .lst (vs ++ ws)) hc ea sm_own ⟨xs ++ ys, upd_same, RpL.stay (st_own A1) _ _ (l.append l2), by rw [List.length_append]; exact hl⟩
        exact ⟨a, b, xs, ys, rfl, rfl, hx, hb, by rw [l.length, l2.length]; exact hl, p1 M1 _ x3 R3 .non (show Rp _ _ _ _ _ from rp_non.mpr rfl)⟩
      · exact p1.elim
    · exact p1.elim
  · exact p.elim
theorem se_pop {j : Nat} {o : Expr} {apos : Pos} (ho : PE X o (tVar j)) (hP : ∀ {to : TE}, PE X o to → PE X (.Call (.Attribute o "pop" apos) [] [] pos) (tBM0 X.K "list" rPop to)) : PE X (.Call (.Attribute o "pop" apos) [] [] pos) (tE G (dPop j)) := (hP ho).pv fun σ H Q ⟨M, env, R, p⟩ => by
  unfold dPop at p
  split at p
  · rename_i vs hc
    obtain ⟨a, ea, ma, xs, hx, l, zl⟩ := R.slot j _ hc
    refine ⟨.ref a, ea, tyV_list hx, ?_⟩
    cases e : vs.getLast? with
    | none => rw [e] at p; exact p.elim
    | some v =>
      rw [e] at p
      obtain ⟨x, ex, rx⟩ := l.last e
      have A1 : or' G.P M a := .inr ma
      obtain ⟨R3, x3⟩ := R.write (v' := .lst vs.dropLast) hc ea sm_own ⟨xs.dropLast, upd_same, RpL.stay (st_own A1) _ _ l.dropLast, by rw [List.length_dropLast]; omega⟩
      exact ⟨a, xs, x, rfl, rfl, hx, ex, p M _ x3 R3 x (Rp.stay (st_own A1) _ _ rx)⟩
  · exact p.elim
end

/-! ### what is walked -/
abbrev ID := EnvD → Res (List Val × EnvD)
/-- J yields the data vs, one after another, as long as what they lean on stays -/
def ItOk (K : PySem.W.Frag) (H : Hp) (A : AP) (J : It) (vs : List Val) : Prop := ∀ (i : Nat) (H1 : Hp) (A1 : AP), Stay H A H1 A1 → (∀ a, A1 a → H1 a ≠ none) →
  (vs.length = i → J.stop i H1) ∧ ∀ v, vs[i]? = some v → J.go i H1 ∧ ∀ x H2, J.yld i H1 x H2 → (∀ a t, H1 a = some t → H2 a = some t) ∧ Rp K H2 A1 v x
def okI (G : Cfg) (σ : L2.St) (R : It → Hp → Prop) : List Val × EnvD → AP → Hp → Prop := fun r M H => RelEnv G.K H G.P M σ r.2 → ∀ J, ItOk G.K H (or' G.P M) J r.1 → R J H
def tI (G : Cfg) (d : ID) : TI := fun σ H R => ∃ M env, RelEnv G.K H G.P M σ env ∧ Post G M H (okI G σ R) (d env)
theorem Stay.refl {H : Hp} {A : AP} : Stay H A H A := fun _ _ e n => ⟨e, n⟩
theorem Stay.trans {H H1 H2 : Hp} {A A1 A2 : AP} (a : Stay H A H1 A1) (b : Stay H1 A1 H2 A2) : Stay H A H2 A2 := fun c o e n => b c o (a c o e n).1 (a c o e n).2
theorem Stay.same {H H1 : Hp} {A : AP} (s : ∀ a t, H a = some t → H1 a = some t) : Stay H A H1 A := fun a o e n => ⟨s a o e, n⟩
section
variable {G : Cfg} {pin : Pin}
def forLoop (g : GD) (b : SD) : List Val → EnvD → Res SR
  | [], env => .ok (.nx env)
  | v :: vs, env => g v env >>= fun env => b env >>= fun r => match r with
    | .nx e => forLoop g b vs e
    | .cnt e => forLoop g b vs e
    | .brk e => .ok (.nx e)
    | .ret v o e => .ok (.ret v o e)
def sFor (it : ID) (g : GD) (b : SD) : SD := fun env => it env >>= fun r => forLoop g b r.1 r.2
theorem tS_for {it : ID} {g : GD} {b : SD} {ws : List Nat} (np : NoPins pin ws) : ∀ D σ H, tS G pin (sFor it g b) D σ H → tFor (tI G it) (tG G ws g) (tS G pin b) D σ H := fun D σ H ⟨M, env, R, hp, p⟩ => by
  refine ⟨M, env, R, ?_⟩
  unfold sFor at p
  cases q : it env with
  | exc c pp => rw [q] at p; exact p
  | bad => rw [q] at p; exact p
  | ok r =>
    obtain ⟨vs, env1⟩ := r
    rw [q] at p
    intro M1 H1 x1 R1 J ij
    have p1 : Post G M1 H1 (okS G pin D) (forLoop g b vs env1) := Post.mono p x1
    refine ⟨fun i m σ H => m = vs.length - i ∧ i ≤ vs.length ∧ ∃ M env, RelEnv G.K H G.P M σ env ∧ Pinned pin σ ∧ Stay H1 (or' G.P M1) H (or' G.P M) ∧ Post G M H (okS G pin D) (forLoop g b (vs.drop i) env), ⟨vs.length, by simp, Nat.zero_le _, M1, env1, R1, hp, .refl, by simpa using p1⟩, ?_⟩
    rintro i m σ2 H2 ⟨rfl, hi, M2, env2, R2, hp2, st, p2⟩
    obtain ⟨j1, j2⟩ := ij i H2 _ st R2.al
    by_cases hlt : i < vs.length
    · have ev : vs[i]? = some vs[i] := List.getElem?_eq_getElem hlt
      obtain ⟨go, j3⟩ := j2 _ ev
      refine .inr ⟨go, fun σ H => ∃ M env, RelEnv G.K H G.P M σ env ∧ Pinned pin σ ∧ Stay H1 (or' G.P M1) H (or' G.P M) ∧ Post G M H (okS G pin D) (forLoop g b (vs.drop (i + 1)) env), fun σ' H' w => ⟨vs.length - (i + 1), by omega, rfl, hlt, w⟩, fun x H3 y => ?_⟩
      obtain ⟨s3, rx⟩ := j3 x H3 y
      rw [List.drop_eq_getElem_cons hlt] at p2
      have e3 : Ext M2 H2 M2 H3 := Ext.same s3 fun _ m => .inl m
      have R3 := R2.same s3 (fun _ m => m) e3 fun a m => e3.live a (R2.mal a m)
      have p3 := Post.mono p2 e3
      unfold forLoop at p3
      refine ⟨M2, env2, vs[i], R3, rx, ?_⟩
      cases qg : g vs[i] env2 with
      | exc c pp => rw [qg] at p3; exact p3
      | bad => rw [qg] at p3; exact p3
      | ok e4 =>
        rw [qg] at p3
        intro M4 H4 x4 σ4 R4 el4
        have hp4 := hp2.els np el4
        have p4 := Post.mono p3 x4
        refine ⟨M4, e4, R4, hp4, ?_⟩
        simp only [res_ok_bind] at p4
        have st4 : Stay H1 (or' G.P M1) H4 (or' G.P M4) := st.trans ((Stay.same s3).trans (x4.stay R3.pal))
        cases qb : b e4 with
        | exc c pp => rw [qb] at p4; exact p4
        | bad => rw [qb] at p4; exact p4
        | ok r =>
          rw [qb] at p4
          intro M5 H5 x5
          have p5 := Post.mono p4 x5
          have st5 := st4.trans (x5.stay R4.pal)
          cases r with
          | nx e5 => exact fun σ5 R5 hp5 => ⟨M5, e5, R5, hp5, st5, p5⟩
          | cnt e5 => exact fun σ5 R5 hp5 => ⟨M5, e5, R5, hp5, st5, p5⟩
          | brk e5 => exact fun σ5 R5 hp5 => p5.endN R5 hp5
          | ret v o e5 => exact p5.ends .refl
    · have e : i = vs.length := by omega
      subst e
      refine .inl ⟨j1 rfl, ?_⟩
      rw [List.drop_length] at p2
      exact p2.endN R2 hp2
def whileLoop (t : TD) (b : SD) : Nat → EnvD → Res SR
  | 0, _ => .bad
  | n + 1, env => t env >>= fun r => if r.1 then (b r.2 >>= fun s => match s with
    | .nx e => whileLoop t b n e
    | .cnt e => whileLoop t b n e
    | .brk e => .ok (.nx e)
    | .ret v o e => .ok (.ret v o e)) else .ok (.nx r.2)
def sWhile (n : Nat) (t : TD) (b : SD) : SD := whileLoop t b n
theorem tS_while {n : Nat} {t : TD} {b : SD} : ∀ D σ H, tS G pin (sWhile n t b) D σ H → tWhile (tT G t) (tS G pin b) D σ H := fun D σ H ⟨M, env, R, hp, p⟩ => by
  refine ⟨fun m σ H => ∃ M env, RelEnv G.K H G.P M σ env ∧ Pinned pin σ ∧ Post G M H (okS G pin D) (whileLoop t b m env), ⟨n, M, env, R, hp, p⟩, ?_⟩
  rintro m σ1 H1 ⟨M1, env1, R1, hp1, p1⟩
  cases m with
  | zero => exact p1.elim
  | succ m =>
    unfold whileLoop at p1
    refine Post.bindT R1 p1 fun c e2 M2 H2 x2 R2 p2 => ?_
    simp only at p2
    cases c with
    | false => exact p2.endN R2 hp1
    | true =>
      refine ⟨fun σ H => ∃ M env, RelEnv G.K H G.P M σ env ∧ Pinned pin σ ∧ Post G M H (okS G pin D) (whileLoop t b m env), fun σ' H' w => ⟨m, Nat.lt_succ_self m, w⟩, M2, e2, R2, hp1, ?_⟩
      simp only [if_true] at p2
      cases qb : b e2 with
      | exc c pp => rw [qb] at p2; exact p2
      | bad => rw [qb] at p2; exact p2
      | ok r =>
        rw [qb] at p2
        intro M5 H5 x5
        have p5 := Post.mono p2 x5
        cases r with
        | nx e5 => exact fun σ5 R5 hp5 => ⟨M5, e5, R5, hp5, p5⟩
        | cnt e5 => exact fun σ5 R5 hp5 => ⟨M5, e5, R5, hp5, p5⟩
        | brk e5 => exact fun σ5 R5 hp5 => p5.endN R5 hp5
        | ret v o e5 => exact p5.ends .refl
end
end PV

namespace PV
open PySem PySem.Spec PyProof.Rows L2
open PySem.W (dataLt alike alikeAll lt_data gt_data le_data ge_data AlikeAll minD maxD)

def wipeD (env : EnvD) : List Nat → EnvD
  | [] => env
  | v :: vs => (wipeD env vs).set v .emp
def backD (e1 e2 : EnvD) : List Nat → EnvD
  | [] => e2
  | v :: vs => (backD e1 e2 vs).set v (e1[v]?.getD .emp)
def noOwn (env : EnvD) (own : List Nat) : Bool := own.all fun j => match env[j]? with
  | some (.own _) => false
  | _ => true
/-- nothing is raised -/
def noX {α : Type} : Res α → Res α
  | .ok a => .ok a
  | _ => .bad
def lcLoop (own : List Nat) (g : GD) (t : TD) (elt : ED) : List Val → EnvD → List Val → Res (List Val × EnvD)
  | [], env, acc => .ok (acc, env)
  | v :: vs, env, acc => g v env >>= fun e1 => t e1 >>= fun r => if r.1 then (elt r.2 >>= fun y => lcLoop own g t elt vs (wipeD y.2.2 own) (acc ++ [y.1])) else lcLoop own g t elt vs (wipeD r.2 own) acc
def dLc (own : List Nat) (it : ID) (g : GD) (t : TD) (elt : ED) : ED := fun env => it env >>= fun r => if noOwn r.2 own && decide (r.1.length ≤ sizeLine) then (noX (lcLoop own g t elt r.1 (wipeD r.2 own) []) >>= fun z => .ok (.lst z.1, true, backD r.2 z.2 own)) else .bad
def dYes : TD := fun env => .ok (true, env)

theorem wipe_get (σ : L2.St) (j : Nat) : ∀ vs : List Nat, (wipe σ vs)[j]? = if j ∈ vs then (if j < σ.length then some none else none) else σ[j]?
  | [] => by simp [wipe]
  | v :: vs => by
    unfold wipe
    by_cases h : v = j
    · subst h
      rw [if_pos List.mem_cons_self]
      by_cases hl : v < σ.length
      · rw [List.getElem?_set_self (by rw [wipe_length]; exact hl), if_pos hl]
      · rw [List.getElem?_eq_none (by rw [List.length_set, wipe_length]; omega), if_neg hl]
    · rw [List.getElem?_set_ne h, wipe_get σ j vs]
      have : (j ∈ v :: vs) ↔ j ∈ vs := by simp only [List.mem_cons]; exact ⟨fun z => z.elim (fun e => absurd e.symm h) id, .inr⟩
      simp only [this]
theorem wipe_else {σ σ2 : L2.St} {vs ws : List Nat} (e : Else ws (wipe σ vs) σ2) (h : ∀ j ∈ ws, j ∈ vs) : wipe σ2 vs = wipe σ vs := by
  have hl : σ2.length = σ.length := by rw [e.1, wipe_length]
  apply List.ext_getElem?
  intro j
  rw [wipe_get, wipe_get, hl]
  by_cases hj : j ∈ vs
  · rw [if_pos hj, if_pos hj]
  · rw [if_neg hj, if_neg hj, e.2 j fun z => hj (h j z), wipe_get, if_neg hj]
theorem wipeD_length (env : EnvD) : ∀ vs : List Nat, (wipeD env vs).length = env.length
  | [] => rfl
  | v :: vs => by unfold wipeD; rw [List.length_set, wipeD_length env vs]
theorem wipeD_get (env : EnvD) (j : Nat) : ∀ vs : List Nat, (wipeD env vs)[j]? = if j ∈ vs then (if j < env.length then some .emp else none) else env[j]?
  | [] => by simp [wipeD]
  | v :: vs => by
    unfold wipeD
    by_cases h : v = j
    · subst h
      rw [if_pos List.mem_cons_self]
      by_cases hl : v < env.length
      · rw [List.getElem?_set_self (by rw [wipeD_length]; exact hl), if_pos hl]
      · rw [List.getElem?_eq_none (by rw [List.length_set, wipeD_length]; omega), if_neg hl]
    · rw [List.getElem?_set_ne h, wipeD_get env j vs]
      have : (j ∈ v :: vs) ↔ j ∈ vs := by simp only [List.mem_cons]; exact ⟨fun z => z.elim (fun e => absurd e.symm h) id, .inr⟩
      simp only [this]
theorem backD_length (e1 e2 : EnvD) : ∀ vs : List Nat, (backD e1 e2 vs).length = e2.length
  | [] => rfl
  | v :: vs => by unfold backD; rw [List.length_set, backD_length e1 e2 vs]
theorem backD_get (e1 e2 : EnvD) (h : e1.length = e2.length) (j : Nat) : ∀ vs : List Nat, (backD e1 e2 vs)[j]? = if j ∈ vs then e1[j]? else e2[j]?
  | [] => by simp [backD]
  | v :: vs => by
    unfold backD
    by_cases hj : v = j
    · subst hj
      rw [if_pos List.mem_cons_self]
      by_cases hl : v < e2.length
      · rw [List.getElem?_set_self (by rw [backD_length]; exact hl), List.getElem?_eq_getElem (by omega)]
        rfl
      · rw [List.getElem?_eq_none (by rw [List.length_set, backD_length]; omega), List.getElem?_eq_none (by omega)]
    · rw [List.getElem?_set_ne hj, backD_get e1 e2 h j vs]
      have : (j ∈ v :: vs) ↔ j ∈ vs := by simp only [List.mem_cons]; exact ⟨fun z => z.elim (fun e => absurd e.symm hj) id, .inr⟩
      simp only [this]
section
variable {K : PySem.W.Frag} {H : Hp} {P M : AP} {σ : L2.St} {env e1 e2 : EnvD} {vs : List Nat}
theorem SlotOk.at {i : Nat} {t : Slot} {σ' : L2.St} (e : σ'[i]? = σ[i]?) (h : SlotOk K H P M σ i t) : SlotOk K H P M σ' i t := by
  cases t with
  | emp => trivial
  | frz v => obtain ⟨x, e', r⟩ := h; exact ⟨x, e.trans e', r⟩
  | own v => obtain ⟨x, e', r⟩ := h; exact ⟨x, e.trans e', r⟩
theorem RelEnv.wiped (R : RelEnv K H P M σ env) : RelEnv K H P M (wipe σ vs) (wipeD env vs) := by
  have key : ∀ (j : Nat) (w : Val), (wipeD env vs)[j]? = some (.own w) → env[j]? = some (.own w) ∧ (wipe σ vs)[j]? = σ[j]? := fun j w e => by
    rw [wipeD_get] at e
    by_cases hj : j ∈ vs
    · rw [if_pos hj] at e; split at e <;> cases e
    · rw [if_neg hj] at e; exact ⟨e, by rw [wipe_get, if_neg hj]⟩
  refine ⟨by rw [wipeD_length, wipe_length]; exact R.len, fun j u e => ?_, fun j k a v w q1 q2 q3 q4 => ?_, R.mal, R.pal, R.pm⟩
  · rw [wipeD_get] at e
    by_cases hj : j ∈ vs
    · rw [if_pos hj] at e
      split at e
      · cases e; trivial
      · cases e
    · rw [if_neg hj] at e
      exact (R.slot j u e).at (by rw [wipe_get, if_neg hj])
  · obtain ⟨g1, g2⟩ := key j v q1
    obtain ⟨g3, g4⟩ := key k w q2
    rw [g2] at q3
    rw [g4] at q4
    exact R.one j k a v w g1 g3 q3 q4
/-- behind the block: its own names as they were -/
theorem RelEnv.backed {H1 : Hp} {M1 : AP} (R1 : RelEnv K H1 P M1 σ e1) (no : noOwn e1 vs = true) (x : Ext M1 H1 M H) (R : RelEnv K H P M (wipe σ vs) e2) : RelEnv K H P M σ (backD e1 e2 vs) := by
  have hl : e1.length = e2.length := by rw [R1.len, R.len, wipe_length]
  have nw : ∀ j ∈ vs, ∀ w, e1[j]? ≠ some (.own w) := fun j hj w e => by
    have := List.all_eq_true.mp no j hj
    rw [e] at this; cases this
  have key : ∀ (j : Nat) (w : Val), (backD e1 e2 vs)[j]? = some (.own w) → e2[j]? = some (.own w) ∧ (wipe σ vs)[j]? = σ[j]? := fun j w e => by
    rw [backD_get e1 e2 hl] at e
    by_cases hj : j ∈ vs
    · rw [if_pos hj] at e; exact absurd e (nw j hj w)
    · rw [if_neg hj] at e; exact ⟨e, by rw [wipe_get, if_neg hj]⟩
  refine ⟨by rw [backD_length, ← hl]; exact R1.len, fun j u e => ?_, fun j k a v w q1 q2 q3 q4 => ?_, R.mal, R.pal, R.pm⟩
  · rw [backD_get e1 e2 hl] at e
    by_cases hj : j ∈ vs
    · rw [if_pos hj] at e
      have q := R1.slot j u e
      cases u with
      | emp => trivial
      | frz v => obtain ⟨y, e', r⟩ := q; exact ⟨y, e', Rp.stay (x.stay R1.pal) _ _ r⟩
      | own v => exact absurd e (nw j hj v)
    · rw [if_neg hj] at e
      exact (R.slot j u e).at (by rw [wipe_get, if_neg hj])
  · obtain ⟨g1, g2⟩ := key j v q1
    obtain ⟨g3, g4⟩ := key k w q2
    rw [← g2] at q3
    rw [← g4] at q4
    exact R.one j k a v w g1 g3 q3 q4
end
/-- the block's wish: nothing is let out; P is kept -/
def Cfg.blk (G : Cfg) (P : AP) : Cfg := { G with E := fun _ _ _ => False, P := P }
theorem RelEnv.noSlot {K : PySem.W.Frag} {H : Hp} {P M : AP} {σ : L2.St} {env : EnvD} (R : RelEnv K H P M σ env) {p : Addr} (hp : H p = none) : ∀ (i : Nat) (w : Val), env[i]? = some (.own w) → σ[i]? ≠ some (some (.ref p)) := fun i w e q => by
  obtain ⟨a, ea, ma, _⟩ := R.slot i _ e
  rw [ea] at q
  have : a = p := by simpa using q
  subst this
  exact R.mal a ma hp
/-- an address that is kept becomes ours, and back -/
theorem or_move {P M : AP} {D : Addr} : or' (or' P (· = D)) M = or' P (or' M (· = D)) := by
  funext b; simp only [or', eq_iff_iff]
  exact ⟨fun h => h.elim (fun h => h.elim .inl fun e => .inr (.inr e)) fun m => .inr (.inl m), fun h => h.elim (fun p => .inl (.inl p)) fun h => h.elim .inr fun e => .inl (.inr e)⟩
/-- a reading for every P -/
def xE (G : Cfg) (d : ED) : TE := fun σ H Q => ∃ P, tE (G.blk P) d σ H Q
def xT (G : Cfg) (d : TD) : TT := fun σ H Q => ∃ P, tT (G.blk P) d σ H Q
def xG (G : Cfg) (ws : List Nat) (d : GD) : TG := fun x σ H Q => ∃ P, tG (G.blk P) ws d x σ H Q
section
variable {G : Cfg}
theorem tE_lc {own ws : List Nat} {it : ID} {g : GD} {t : TD} {elt : ED} {tt : TT} (hw : ∀ j ∈ ws, j ∈ own) (htt : ∀ σ H Q, xT G t σ H Q → tt σ H Q) : ∀ {σ : L2.St} {H : Hp} {Q : VK}, tE G (dLc own it g t elt) σ H Q → tLc (tI G it) (xG G ws g) tt (xE G elt) own σ H Q := fun {σ H Q} ⟨M, env, R, p⟩ => by
  refine ⟨M, env, R, ?_⟩
  unfold dLc at p
  cases q : it env with
  | exc c pp => rw [q] at p; exact p
  | bad => rw [q] at p; exact p
  | ok r =>
    obtain ⟨vs, e1⟩ := r
    rw [q] at p
    intro M1 H1 x1 R1 J ij D hD
    have p1 := Post.mono p x1
    simp only [res_ok_bind] at p1
    split at p1
    · rename_i cond
      rw [Bool.and_eq_true, decide_eq_true_eq] at cond
      obtain ⟨no, hsz⟩ := cond
      cases ql : lcLoop own g t elt vs (wipeD e1 own) [] with
      | exc c pp => rw [ql] at p1; exact p1.elim
      | bad => rw [ql] at p1; exact p1.elim
      | ok z =>
        obtain ⟨acc, eN⟩ := z
        rw [ql] at p1
        simp only [noX, res_ok_bind] at p1
        have npD : ¬ G.P D := fun h => R1.pal D h hD
        have nmD : ¬ M1 D := fun h => R1.mal D h hD
        let Inv : Nat → Hp → Prop := fun i H => ∃ (M' : AP) (env' : EnvD) (ac : List Val) (xs : List V), RelEnv G.K H (or' G.P (· = D)) M' (wipe σ own) env' ∧ Ext M1 H1 (or' M' (· = D)) H ∧ Stay H1 (or' G.P M1) H (or' (or' G.P (· = D)) M') ∧ H D = some (.lst xs) ∧
          RpL G.K H (or' (or' G.P (· = D)) M') ac xs ∧ ac.length ≤ i ∧ lcLoop own g t elt (vs.drop i) env' ac = .ok (acc, eN)
        refine ⟨fun i m H => m = vs.length - i ∧ i ≤ vs.length ∧ Inv i H, ⟨vs.length, by simp, Nat.zero_le _, M1, wipeD e1 own, [], [], ?_, ?_, ?_, upd_same, RpL.nil, Nat.le_refl _, by simpa using ql⟩, ?_⟩
        · have R1' := R1.wiped (vs := own)
          have st : Stay H1 (or' G.P M1) (upd H1 D (.lst [])) (or' (or' G.P (· = D)) M1) := fun a o e n => ⟨same_upd hD a o e, fun h => h.elim (fun h => h.elim (fun p => n (.inl p)) fun z => by subst z; rw [hD] at e; cases e) fun m => n (.inr m)⟩
          refine ⟨R1'.len, fun i t e => ?_, R1'.one, fun a m => ?_, fun a m => ?_, fun a p m => p.elim (fun p => R1.pm a p m) fun e => by subst e; exact nmD m⟩
          · have q := R1'.slot i t e
            cases t with
            | emp => trivial
            | frz v => obtain ⟨x, e', r⟩ := q; exact ⟨x, e', Rp.stay st _ _ r⟩
            | own v =>
              obtain ⟨a, e', m, r⟩ := q
              have hn := r.ne
              cases ha : H1 a with
              | none => exact absurd ha hn
              | some o => exact ⟨a, e', m, r.stay st (by rw [same_upd hD a o ha, ha])⟩
          · have := R1.mal a m
            cases ha : H1 a with
            | none => exact absurd ha this
            | some o => rw [same_upd hD a o ha]; simp
          · rcases m with m | rfl
            · have := R1.pal a m
              cases ha : H1 a with
              | none => exact absurd ha this
              | some o => rw [same_upd hD a o ha]; simp
            · rw [upd_same]; simp
        · exact Ext.same (same_upd hD) fun a m => m.elim .inl fun e => .inr (e ▸ hD)
        · exact fun a o e n => ⟨same_upd hD a o e, fun h => h.elim (fun h => h.elim (fun p => n (.inl p)) fun z => by subst z; rw [hD] at e; cases e) fun m => n (.inr m)⟩
        rintro i m H2 ⟨rfl, hi, M2, env2, ac, xs, R2, x2, st, hx, l, hac, lo⟩
        obtain ⟨j1, j2⟩ := ij i H2 _ st R2.al
        by_cases hlt : i < vs.length
        · have ev : vs[i]? = some vs[i] := List.getElem?_eq_getElem hlt
          obtain ⟨go, j3⟩ := j2 _ ev
          refine .inr ⟨go, fun H => Inv (i + 1) H, fun H' w => ⟨vs.length - (i + 1), by omega, rfl, hlt, w⟩, fun x H3 y => ?_⟩
          obtain ⟨s3, rx⟩ := j3 x H3 y
          rw [List.drop_eq_getElem_cons hlt] at lo
          have e3 : Ext M2 H2 M2 H3 := Ext.same s3 fun _ m => .inl m
          have R3 := R2.same s3 (fun _ m => m) e3 fun a m => e3.live a (R2.mal a m)
          have hx3 := s3 D _ hx
          have l3 : RpL G.K H3 _ ac xs := RpL.stay (Stay.same s3) _ _ l
          have nD2 : ¬ M2 D := fun h => R2.pm D (.inr rfl) h
          -- a later state
          have later : ∀ {M' : AP} {H' : Hp}, Ext M2 H3 M' H' → Ext M1 H1 (or' M' (· = D)) H' ∧ Stay H1 (or' G.P M1) H' (or' (or' G.P (· = D)) M') ∧ H' D = some (.lst xs) ∧ RpL G.K H' (or' (or' G.P (· = D)) M') ac xs := fun {M' H'} ex => by
            have exx := ex.stay R3.pal
            refine ⟨?_, (st.trans (Stay.same s3)).trans exx, ex.keep D _ hx3 nD2, RpL.stay exx _ _ l3⟩
            have a1 : Ext M1 H1 (or' M2 (· = D)) H3 := x2.trans (Ext.same s3 fun _ m => .inl m)
            refine ⟨fun a o e n => ?_, fun a m => ?_, fun a h => ex.live a (a1.live a h)⟩
            · have e1 := a1.keep a o e n
              refine ex.keep a o e1 fun m => ?_
              rcases a1.mem a (.inl m) with z | z
              · exact n z
              · rw [z] at e; cases e
            · rcases m with m | rfl
              · rcases ex.mem a m with z | z
                · exact a1.mem a (.inl z)
                · right
                  cases q : H1 a with
                  | none => rfl
                  | some o => exact absurd z (a1.live a (by rw [q]; simp))
              · exact .inr hD
          unfold lcLoop at lo
          refine ⟨or' G.P (· = D), M2, env2, vs[i], R3, rx, ?_⟩
          cases qg : g vs[i] env2 with
          | exc c pp => rw [qg] at lo; cases lo
          | bad => rw [qg] at lo; cases lo
          | ok e4 =>
            rw [qg] at lo
            simp only [res_ok_bind] at lo
            intro M4 H4 x4 σ4 R4 el
            have hwp := wipe_else el hw
            refine ⟨hwp, htt σ4 H4 _ ⟨or' G.P (· = D), M4, e4, R4, ?_⟩⟩
            cases qt : t e4 with
            | exc c pp => rw [qt] at lo; cases lo
            | bad => rw [qt] at lo; cases lo
            | ok rt =>
              obtain ⟨b, e5⟩ := rt
              rw [qt] at lo
              simp only [res_ok_bind] at lo
              intro M5 H5 x5 R5
              have x45 := x4.trans x5
              cases b with
              | false =>
                simp only [Bool.false_eq_true, if_false] at lo ⊢
                obtain ⟨a1, a2, a3, a4⟩ := later x45
                have R6 := R5.wiped (vs := own)
                rw [hwp] at R6
                exact ⟨M5, wipeD e5 own, ac, xs, R6, a1, a2, a3, a4, Nat.le_succ_of_le hac, lo⟩
              | true =>
                simp only [if_true] at lo ⊢
                refine ⟨or' G.P (· = D), M5, e5, R5, ?_⟩
                cases qe : elt e5 with
                | exc c pp => rw [qe] at lo; cases lo
                | bad => rw [qe] at lo; cases lo
                | ok re =>
                  obtain ⟨y, o, e6⟩ := re
                  rw [qe] at lo
                  simp only [res_ok_bind] at lo
                  intro M6 H6 x6 R6 z rz
                  obtain ⟨M7, x7, R7, rz7⟩ := RpR.give (G := G.blk (or' G.P (· = D))) R6 rz
                  have x47 := (x45.trans x6).trans x7
                  obtain ⟨a1, a2, a3, a4⟩ := later x47
                  have hl4 := a4.length
                  refine ⟨xs, a3, by omega, ?_⟩
                  have AD : or' (or' G.P (· = D)) M7 D := .inl (.inr rfl)
                  have R8 := R7.wiped (vs := own)
                  rw [hwp] at R8
                  have st8 := st_own (o := .lst (xs ++ [z])) (H := H6) AD
                  have live8 : ∀ a, H6 a ≠ none → upd H6 D (.lst (xs ++ [z])) a ≠ none := fun a h => by
                    by_cases q : a = D
                    · subst q; rw [upd_same]; simp
                    · rw [upd_ne q]; exact h
                  refine ⟨M7, wipeD e6 own, ac ++ [y], xs ++ [z], ⟨R8.len, fun j u e => ?_, R8.one, fun a m => live8 a (R8.mal a m), fun a m => live8 a (R8.pal a m), R8.pm⟩, ?_, a2.trans st8, upd_same, RpL.stay st8 _ _ (a4.append (RpL.one rz7)), by rw [List.length_append]; simp; omega, lo⟩
                  · have q := R8.slot j u e
                    cases u with
                    | emp => trivial
                    | frz w => obtain ⟨y', e', r⟩ := q; exact ⟨y', e', Rp.stay st8 _ _ r⟩
                    | own w =>
                      obtain ⟨b, e', mb, r⟩ := q
                      exact ⟨b, e', mb, r.stay st8 (upd_ne fun z => by subst z; exact R8.pm b (.inr rfl) mb)⟩
                  · refine ⟨fun a o e n => ?_, a1.mem, fun a h => live8 a (a1.live a h)⟩
                    rw [upd_ne fun z => by subst z; rw [hD] at e; cases e]
                    exact a1.keep a o e n
        · have e : i = vs.length := by omega
          subst e
          refine .inl ⟨j1 rfl, ?_⟩
          rw [List.drop_length] at lo
          unfold lcLoop at lo
          cases lo
          have R2' : RelEnv G.K H2 G.P (or' M2 (· = D)) (wipe σ own) eN := by
            refine ⟨R2.len, fun i t e => ?_, R2.one, fun a m => m.elim (R2.mal a) fun e => R2.pal a (.inr e), fun a p => R2.pal a (.inl p), fun a p m => m.elim (R2.pm a (.inl p)) fun e => by subst e; exact npD p⟩
            have q := R2.slot i t e
            cases t with
            | emp => trivial
            | frz v => obtain ⟨x, e', r⟩ := q; exact ⟨x, e', by rw [← or_move]; exact r⟩
            | own v => obtain ⟨a, e', m, r⟩ := q; exact ⟨a, e', .inl m, by rw [← or_move]; exact r⟩
          have Rb := RelEnv.backed R1 no x2 R2'
          rw [or_move] at l
          refine p1 _ H2 x2 Rb _ ⟨D, rfl, .inr rfl, ⟨xs, hx, l, Nat.le_trans hac hsz⟩, fun j w e => ?_⟩
          rw [backD_get _ _ (by rw [R1.len, R2.len, wipe_length])] at e
          by_cases hj : j ∈ own
          · rw [if_pos hj] at e
            have := List.all_eq_true.mp no j hj
            rw [e] at this; cases this
          · rw [if_neg hj] at e
            intro q
            obtain ⟨a, ea, ma, _⟩ := R2.slot j _ e
            rw [wipe_get, if_neg hj, q] at ea
            have : D = a := by simpa using ea
            subst this
            exact R2.pm D (.inr rfl) ma
    · exact p1.elim
end
end PV

namespace PV
open PySem PySem.Spec PyProof.Rows L2
open PySem.W (dataLt alike alikeAll lt_data gt_data le_data ge_data AlikeAll minD maxD min_list_data max_list_data min_tuple_data max_tuple_data sorted_data AllAlike Sortable EachIs)

/-! ### comprehensions -/
section
variable {X : Cx} {G : Cfg} {pin : Pin}
theorem pe_ex {Y : Cx} {e : Expr} {d : ED} (h : ∀ P, PE Y e (tE (G.blk P) d)) : PE Y e (xE G d) := ⟨fun pins s σ H Q I ⟨P, q⟩ => (h P).run pins s σ H Q I q⟩
theorem pt_ex {Y : Cx} {e : Expr} {d : TD} (h : ∀ P, PT Y e (tT (G.blk P) d)) : PT Y e (xT G d) := ⟨fun pins s σ H Q I ⟨P, q⟩ => (h P).run pins s σ H Q I q⟩
theorem pg_ex {Y : Cx} {e : Expr} {d : GD} {ws : List Nat} (h : ∀ P, PG Y e (tG (G.blk P) ws d)) : PG Y e (xG G ws d) := ⟨fun pins s σ H v u Q I r ⟨P, q⟩ => (h P).run pins s σ H v u Q I r q⟩
theorem xT_yes : ∀ σ H Q, xT G dYes σ H Q → tYes σ H Q := fun σ H Q ⟨P, M, env, R, p⟩ => Post.endT (G := G.blk P) R p
/-- the block of a comprehension: how its parts are read -/
structure BlkP (X : Cx) (G : Cfg) (scope : Scope) (elt tg : Expr) (ifs : List Expr) (own ws : List Nat) (g : GD) (t : TD) (d : ED) : Prop where
  tg : ∀ (s : Shared) (H : Hp) (C : Addr) (cl : List (Str × Addr)) (fp : List Addr) (P : AP), PG (X.blk s H scope (compEnvC scope cl C X.env) fp) tg (tG (G.blk P) ws g)
  ifs : (ifs = [] ∧ t = dYes) ∨ ∃ c, ifs = [c] ∧ ∀ (s : Shared) (H : Hp) (C : Addr) (cl : List (Str × Addr)) (fp : List Addr) (P : AP), PT (X.blk s H scope (compEnvC scope cl C X.env) fp) c (tT (G.blk P) t)
  elt : ∀ (s : Shared) (H : Hp) (C : Addr) (cl : List (Str × Addr)) (fp : List Addr) (P : AP), PE (X.blk s H scope (compEnvC scope cl C X.env) fp) elt (tE (G.blk P) d)
  sub : ∀ j ∈ ws, j ∈ own
theorem se_lc {elt tg iter : Expr} {ifs : List Expr} {scope : Scope} {own : List (Str × Nat)} {pos : Pos} {ws : List Nat} {it : ID} {g : GD} {t : TD} {d : ED} (hc : X.calm = true) (hN : X.N.Nodup) (hi : PI X tg iter (tI G it)) (ok : BlkOk X.N X.env.scope scope own)
    (B : BlkP X G scope elt tg ifs (own.map (·.2)) ws g t d) (hs : ∀ x, foldedSetIterable iter X.env x = pure x) : PE X (.ListComp elt [⟨tg, iter, ifs, 0⟩] scope pos) (tE G (dLc (own.map (·.2)) it g t d)) := by
  rcases B.ifs with ⟨rfl, rfl⟩ | ⟨c, rfl, hp⟩
  · exact (pe_lc hc hN hi ok (fun s H C cl fp => pg_ex (B.tg s H C cl fp)) (fun _ _ _ _ _ => pts_nil) (fun s H C cl fp => pe_ex (B.elt s H C cl fp)) hs).pv fun σ H Q h => tE_lc B.sub xT_yes h
  · exact (pe_lc hc hN hi ok (fun s H C cl fp => pg_ex (B.tg s H C cl fp)) (fun s H C cl fp => pts_one (pt_ex (hp s H C cl fp))) (fun s H C cl fp => pe_ex (B.elt s H C cl fp)) hs).pv fun σ H Q h => tE_lc B.sub (fun _ _ _ h => h) h
theorem tS_frz {dd : ED} {i : Nat} (np : NoPins pin [i]) : ∀ D σ H, tS G pin (sAsg dd (gN i)) D σ H → tAsg (tE G dd) (gName i) D σ H := fun D σ H ⟨M, env, R, hp, p⟩ => by
  refine Post.bindF R p fun v o e1 x M1 H1 x1 R1 r1 p1 => ?_
  exact p1 M1 H1 .refl _ (R1.bindF r1) (hp.els np ⟨by rw [List.length_set], fun j h => List.getElem?_set_ne fun z => h (by simp [z])⟩)
theorem ss_setLc {o : Bool} {i : Nat} {y : Str} {py : Pos} {elt tg iter : Expr} {ifs : List Expr} {scope : Scope} {own : List (Str × Nat)} {pos spos : Pos} {ws : List Nat} {it : ID} {g : GD} {t : TD} {d : ED} (hc : X.calm = true) (hN : X.N.Nodup) (hy : X.N[i]? = some y) (hyl : X.env.scope.names.lookup y = some .local)
    (hsw : swapsWith (.ListComp elt [⟨tg, iter, ifs, 0⟩] scope pos) (some (.Name y py)) spos.line X.env = pure true) (hi : PI X tg iter (tI G it)) (ok : BlkOk X.N X.env.scope scope own)
    (B : BlkP X G scope elt tg ifs (own.map (·.2)) ws g t d) (hs : ∀ x, foldedSetIterable iter X.env x = pure x) (np : NoPins pin [i]) (np' : NoPin pin i) :
    PS X (.Assign [.Name y py] (.ListComp elt [⟨tg, iter, ifs, 0⟩] scope pos) spos) (tS G pin (if o then sOwn (dLc (own.map (·.2)) it g t d) i else sAsg (dLc (own.map (·.2)) it g t d) (gN i))) := by
  have fin : ∀ {tt : TT}, (∀ σ H Q, xT G t σ H Q → tt σ H Q) → ∀ D σ H, tS G pin (if o then sOwn (dLc (own.map (·.2)) it g t d) i else sAsg (dLc (own.map (·.2)) it g t d) (gN i)) D σ H → tAsg (tLc (tI G it) (xG G ws g) tt (xE G d) (own.map (·.2))) (gName i) D σ H := fun {tt} w D σ H h => by
    refine tE_lc (own := own.map (·.2)) B.sub w (Q := fun x H1 => gName i x σ H1 D.nx) ?_
    cases o with
    | true => exact tS_own np' D σ H h
    | false => exact tS_frz np D σ H h
  rcases B.ifs with ⟨rfl, rfl⟩ | ⟨c, rfl, hp⟩
  · exact (ps_setLc hc hN hy hyl hsw hi ok (fun s H C cl fp => pg_ex (B.tg s H C cl fp)) (fun _ _ _ _ _ => pts_nil) (fun s H C cl fp => pe_ex (B.elt s H C cl fp)) hs).pv (fin xT_yes)
  · exact (ps_setLc hc hN hy hyl hsw hi ok (fun s H C cl fp => pg_ex (B.tg s H C cl fp)) (fun s H C cl fp => pts_one (pt_ex (hp s H C cl fp))) (fun s H C cl fp => pe_ex (B.elt s H C cl fp)) hs).pv (fin fun _ _ _ h => h)
end

/-! ### what is walked -/
section
variable {X : Cx} {tg : Expr}
def iSeq (K : PySem.W.Frag) (tl : TE) : TI := fun σ H R => tl σ H fun x H1 => (∃ z, x = .str z ∧ R (Its z) H1) ∨ ∃ a, x = .ref a ∧ (((∃ xs, SqL K H1 a xs) ∧ R (Itl K a) H1) ∨ ((∃ xs, SqT K H1 a xs) ∧ R (Itt K a) H1) ∨ ∃ i j : Int, H1 a = some (.rng i j) ∧ (-(2 ^ 62) ≤ i ∧ i < 2 ^ 62 ∧ -(2 ^ 62) ≤ j ∧ j < 2 ^ 62) ∧ R (Itr i (j - i).toNat) H1)
theorem pi_seq {l : Expr} {tl : TE} (hl : PE X l tl) : PI X tg l (iSeq X.K tl) := by
  constructor
  intro pins s σ H R I h
  refine thn (hl.run pins s σ H _ I h) fun v s1 ⟨x, H1, I1, r1, hx⟩ => ?_
  rcases hx with ⟨z, rfl, q⟩ | ⟨a, e, q⟩
  · obtain ⟨t, rfl⟩ := r1
    cases ha : z.cps.all (· < 128)
    · exact wpAny_pyIter_wide ha (pi_one (tk := s1.toks) I1 _ (turn_str _ z t "str_iterator" (.inr rfl)) ⟨_, Heap.get?_push_size _ rfl, rfl, rfl⟩ q)
    · exact wpAny_pyIter_ascii ha (pi_one (tk := s1.toks) I1 _ (turn_str _ z t "str_ascii_iterator" (.inl rfl)) ⟨_, Heap.get?_push_size _ rfl, rfl, rfl⟩ q)
  subst e
  cases r1
  have new : ∀ b ∈ [s1.heap.objs.size], FpOk X pins H1 b := fun b hb => by
    obtain rfl : b = s1.heap.objs.size := by simpa using hb
    exact I1.fpOk (Nat.le_refl _) (I1.hok.fresh (Nat.le_refl _))
  have kept : ∀ o : Obj, Inv X pins σ H1 { s1 with heap := s1.heap.push o } := fun o => I1.kept (t' := s1.toks) fun b u z => Heap.get?_push_of_some _ z
  rcases q with ⟨⟨xs, hq⟩, q⟩ | ⟨⟨xs, hq⟩, q⟩ | ⟨i, j, hq, ⟨b1, b2, b3, b4⟩, q⟩
  · obtain ⟨its, rv, p, hz⟩ := I1.list hq
    exact wpAny_pyIter_list p.isList ⟨_, _, _, _, H1, rfl, kept _, turn_list a _, ⟨_, Heap.get?_push_size _ rfl, rfl, rfl⟩, new, q⟩
  · obtain ⟨its, rv, p, hz⟩ := I1.tuple hq
    exact wpAny_pyIter_tuple (show s1.heap.IsTuple a its.toArray from p) ⟨_, _, _, _, H1, rfl, kept _, turn_tuple a _, ⟨_, Heap.get?_push_size _ rfl, rfl, rfl⟩, new, q⟩
  · obtain ⟨t, u, v, e⟩ := I1.hok a _ hq
    refine wpAny_pyIter_range (show IsRange s1.heap a i j 1 t u v from e) (small_one b1 b2 b3 b4) ⟨_, _, _, _, H1, rfl, kept _, turn_range _ i (j - i).toNat, ?_, new, q⟩
    have e1 : i + ((0 : Nat) : Int) * 1 = i := by simp
    have e2 : (((j - i).toNat : Nat) : Int) - ((0 : Nat) : Int) = Builtin.Range.rangeSize i j 1 := by rw [rangeSize_one]; split <;> omega
    show IsRangeIter _ _ (i + ((0 : Nat) : Int) * 1) ((((j - i).toNat : Nat) : Int) - ((0 : Nat) : Int)) 1
    rw [e1, e2]
    exact Heap.get?_push_size _ rfl
end
/-- lo, lo + 1, .. -/
def upto (lo : Int) (n : Nat) : List Val := (List.range n).map fun (i : Nat) => Val.int (lo + (i : Int))
theorem upto_get {lo : Int} {n i : Nat} : (upto lo n)[i]? = if i < n then some (.int (lo + i)) else none := by
  unfold upto
  rw [List.getElem?_map]
  split
  · rename_i h; rw [List.getElem?_range h]; rfl
  · rename_i h; rw [List.getElem?_eq_none (by simpa using h)]; rfl
theorem upto_len {lo : Int} {n : Nat} : (upto lo n).length = n := by simp [upto]
def stepto (lo c : Int) (n : Nat) : List Val := (List.range n).map fun (i : Nat) => Val.int (lo + (i : Int) * c)
theorem stepto_get {lo c : Int} {n i : Nat} : (stepto lo c n)[i]? = if i < n then some (.int (lo + i * c)) else none := by
  unfold stepto
  rw [List.getElem?_map]
  split
  · rename_i h; rw [List.getElem?_range h]; rfl
  · rename_i h; rw [List.getElem?_eq_none (by simpa using h)]; rfl
theorem stepto_len {lo c : Int} {n : Nat} : (stepto lo c n).length = n := by simp [stepto]
theorem itOk_rng {K : PySem.W.Frag} {H : Hp} {A : AP} {lo : Int} {n : Nat} : ItOk K H A (Itr lo n) (upto lo n) := fun i H1 A1 st al => by
  refine ⟨fun hi => by rw [upto_len] at hi; exact Nat.le_of_eq hi, fun v e => ?_⟩
  rw [upto_get] at e
  split at e
  · rename_i h
    cases e
    exact ⟨h, fun y H2 ⟨e2, z⟩ => by subst e2; subst z; exact ⟨fun _ _ e => e, rp_int.mpr rfl⟩⟩
  · cases e
theorem itOk_rngC {K : PySem.W.Frag} {H : Hp} {A : AP} {lo c : Int} {n : Nat} : ItOk K H A (Itc lo c n) (stepto lo c n) := fun i H1 A1 st al => by
  refine ⟨fun hi => by rw [stepto_len] at hi; exact Nat.le_of_eq hi, fun v e => ?_⟩
  rw [stepto_get] at e
  split at e
  · rename_i h
    cases e
    exact ⟨h, fun y H2 ⟨e2, z⟩ => by subst e2; subst z; exact ⟨fun _ _ e => e, rp_int.mpr rfl⟩⟩
  · cases e
/-- the bounds of a range -/
def rgOk (i : Int) : Bool := decide (i.natAbs < 2 ^ 62)
theorem rgOk_iff {i : Int} (h : rgOk i = true) : -(2 ^ 62) ≤ i ∧ i < 2 ^ 62 := by
  have h := of_decide_eq_true h
  omega
def seqV : Val → Option (List Val)
  | .lst vs => some vs
  | .tup vs => some vs
  | .scr is => some (is.map .int)
  | .rng i j => if rgOk i && rgOk j then some (upto i (j - i).toNat) else none
  | .str z => some (z.cps.toList.map fun c => Val.str ⟨#[c]⟩)
  | _ => none
def iVal (d : ED) : ID := fun env => d env >>= fun a => match seqV a.1 with
  | some vs => .ok (vs, a.2.2)
  | none => .bad
section
variable {K : PySem.W.Frag} {H : Hp} {A : AP}
theorem itOk_list {a : Addr} {xs : List V} {vs : List Val} (na : ¬ A a) (ha : H a = some (.lst xs)) (l : RpL K H A vs xs) : ItOk K H A (Itl K a) vs := fun i H1 A1 st al => by
  have hq := SqL.of (K := K) (st a _ ha na).1
  have l1 := RpL.stay st _ _ l
  refine ⟨fun hi => ⟨xs, hq, by rw [l.length]; omega⟩, fun v e => ?_⟩
  obtain ⟨x, ex, rx⟩ := l1.get e
  refine ⟨⟨xs, x, hq, ex⟩, fun y H2 ⟨e2, z⟩ => ?_⟩
  subst e2
  have := z xs hq
  rw [ex] at this; cases this
  exact ⟨fun _ _ e => e, rx⟩
theorem itOk_tup {a : Addr} {xs : List V} {vs : List Val} (na : ¬ A a) (ha : H a = some (.tup xs)) (l : RpL K H A vs xs) : ItOk K H A (Itt K a) vs := fun i H1 A1 st al => by
  have hq := SqT.of (K := K) (st a _ ha na).1
  have l1 := RpL.stay st _ _ l
  refine ⟨fun hi => ⟨xs, hq, by rw [l.length]; omega⟩, fun v e => ?_⟩
  obtain ⟨x, ex, rx⟩ := l1.get e
  refine ⟨⟨xs, x, hq, ex⟩, fun y H2 ⟨e2, z⟩ => ?_⟩
  subst e2
  have := z xs hq
  rw [ex] at this; cases this
  exact ⟨fun _ _ e => e, rx⟩
theorem itOk_scr {a : Addr} {is : List Int} (ha : ScrAt K H A a (is.map V.int)) : ItOk K H A (Itl K a) (is.map .int) := fun i H1 A1 st al => by
  have hq : SqL K H1 a (is.map V.int) := ha.elim (fun ⟨na, o, h⟩ => .inl (.inr ⟨o, (st a _ h na).1⟩)) .inr
  refine ⟨fun hi => ⟨_, hq, by rw [List.length_map] at hi ⊢; omega⟩, fun v e => ?_⟩
  rw [List.getElem?_map] at e
  cases e1 : is[i]? with
  | none => rw [e1] at e; cases e
  | some k =>
    rw [e1] at e; cases e
    have ex : (is.map V.int)[i]? = some (.int k) := by rw [List.getElem?_map, e1]; rfl
    refine ⟨⟨_, _, hq, ex⟩, fun y H2 ⟨e2, z⟩ => ?_⟩
    subst e2
    have := z _ hq
    rw [ex] at this; cases this
    exact ⟨fun _ _ e => e, rp_int.mpr rfl⟩
theorem itOk_str {z : Str} : ItOk K H A (Its z) (z.cps.toList.map fun c => Val.str ⟨#[c]⟩) := fun i H1 A1 st al => by
  refine ⟨fun hi => by rw [List.length_map, Array.length_toList] at hi; exact Nat.le_of_eq hi, fun v e => ?_⟩
  rw [List.getElem?_map] at e
  cases e1 : z.cps.toList[i]? with
  | none => rw [e1] at e; cases e
  | some c =>
    rw [e1] at e; cases e
    have ec : z.cps[i]? = some c := by rw [← Array.getElem?_toList]; exact e1
    refine ⟨(Array.getElem?_eq_some_iff.mp ec).1, fun y H2 ⟨e2, c', ec', ey⟩ => ?_⟩
    subst e2 ey
    rw [ec] at ec'; cases ec'
    exact ⟨fun _ _ e => e, rp_str.mpr rfl⟩
end
section
variable {X : Cx} {G : Cfg} {tg e e2 e3 : Expr} {d : ED} {ds : List ED} {p pos : Pos}
theorem si_val (hK : X.K = G.K) (he : PE X e (tE G d)) : PI X tg e (tI G (iVal d)) := (pi_seq he).pv fun σ H R ⟨M, env, Rl, p⟩ => by
  refine Post.bindF Rl p fun v o e1 x M1 H1 x1 R1 r1 p1 => ?_
  simp only at p1
  cases v <;> try exact p1.elim
  case str z =>
    rw [rp_str] at r1; subst r1
    exact .inl ⟨z, rfl, p1 M1 H1 .refl R1 _ itOk_str⟩
  case lst vs =>
    rw [rp_lst] at r1
    obtain ⟨a, xs, rfl, na, ha, l, z⟩ := r1
    exact .inr ⟨a, rfl, .inl ⟨⟨xs, SqL.of ha⟩, p1 M1 H1 .refl R1 _ (by rw [hK]; exact itOk_list na ha l)⟩⟩
  case tup vs =>
    rw [rp_tup] at r1
    obtain ⟨a, xs, rfl, na, ha, l, z⟩ := r1
    exact .inr ⟨a, rfl, .inr (.inl ⟨⟨xs, SqT.of ha⟩, p1 M1 H1 .refl R1 _ (by rw [hK]; exact itOk_tup na ha l)⟩)⟩
  case scr is =>
    rw [rp_scr] at r1
    obtain ⟨a, rfl, ha⟩ := r1
    exact .inr ⟨a, rfl, .inl ⟨⟨_, by rw [hK]; exact ha.sq⟩, p1 M1 H1 .refl R1 _ (by rw [hK]; exact itOk_scr ha)⟩⟩
  case rng i j =>
    rw [rp_rng] at r1
    obtain ⟨a, rfl, na, ha⟩ := r1
    simp only [seqV] at p1
    split at p1
    · rename_i vs e
      split at e
      · rename_i h
        rw [Bool.and_eq_true] at h
        cases e
        exact .inr ⟨a, rfl, .inr (.inr ⟨i, j, ha, ⟨(rgOk_iff h.1).1, (rgOk_iff h.1).2, (rgOk_iff h.2).1, (rgOk_iff h.2).2⟩, p1 M1 H1 .refl R1 _ itOk_rng⟩)⟩
      · cases e
    · exact p1.elim
/-- range's items, by its arguments -/
def rangeV : List Val → Option (List Val)
  | [.int j] => if rgOk j then some (upto 0 j.toNat) else none
  | [.int i, .int j] => if rgOk i && rgOk j then some (upto i (j - i).toNat) else none
  | [.int i, .int j, .int c] => if rgOk i && rgOk j && decide (c = -1) then some (stepto i (-1) (i - j).toNat) else none
  | _ => none
def iRng (ds : List ED) : ID := fun env => dList ds env >>= fun r => match rangeV r.1 with
  | some vs => .ok (vs, r.2)
  | none => .bad
theorem si_rng1 (hg : Gl X "range") (hm : X.mg "range" = none) (ha : PA X [e] (tL G ds)) (hn : ds.length = 1) (hs : starEach [e] X.env = [(false, eval e X.env)]) : PI X tg (.Call (.Name "range" p) [e] [] pos) (tI G (iRng ds)) := (pi_range1 hg hm ha hs).pv fun σ H R ⟨M, env, Rl, p⟩ => by
  refine Post.bindL Rl p fun vs e2 xs M2 H2 q x2 R2 r2 p2 => ?_
  have hl := dList_len q
  simp only at p2 hl
  match vs, hl with
  | [v], _ =>
    cases v <;> try exact p2.elim
    rename_i j _
    rw [rpl_cons] at r2
    obtain ⟨x, r, rfl, h1, h2⟩ := r2
    rw [rp_int] at h1; rw [rpl_nil] at h2; subst h1 h2
    simp only [rangeV] at p2
    split at p2
    · rename_i vs e
      split at e
      · rename_i h
        cases e
        exact ⟨j, rfl, (rgOk_iff h).1, (rgOk_iff h).2, p2 M2 H2 .refl R2 _ itOk_rng⟩
      · cases e
    · exact p2.elim
  | [], z => rw [hn] at z; cases z
  | _ :: _ :: _, z => rw [hn] at z; simp at z
theorem si_rng2 (hg : Gl X "range") (hm : X.mg "range" = none) (ha : PA X [e, e2] (tL G ds)) (hn : ds.length = 2) (hs : starEach [e, e2] X.env = [(false, eval e X.env), (false, eval e2 X.env)]) (hs2 : starEach [e2] X.env = [(false, eval e2 X.env)]) : PI X tg (.Call (.Name "range" p) [e, e2] [] pos) (tI G (iRng ds)) := (pi_range2 hg hm ha hs hs2).pv fun σ H R ⟨M, env, Rl, p⟩ => by
  refine Post.bindL Rl p fun vs e2 xs M2 H2 q x2 R2 r2 p2 => ?_
  have hl := dList_len q
  rw [hn] at hl
  simp only at p2 hl
  match vs, hl with
  | [v, w], _ =>
    cases v <;> try exact p2.elim
    cases w <;> try exact p2.elim
    rename_i i j _
    rw [rpl_cons] at r2
    obtain ⟨x, r, rfl, h1, h2⟩ := r2
    rw [rpl_cons] at h2
    obtain ⟨y, r, rfl, h2, h3⟩ := h2
    rw [rp_int] at h1 h2; rw [rpl_nil] at h3; subst h1 h2 h3
    simp only [rangeV] at p2
    split at p2
    · rename_i vs e
      split at e
      · rename_i h
        rw [Bool.and_eq_true] at h
        cases e
        exact ⟨i, j, rfl, ⟨(rgOk_iff h.1).1, (rgOk_iff h.1).2, (rgOk_iff h.2).1, (rgOk_iff h.2).2⟩, p2 M2 H2 .refl R2 _ itOk_rng⟩
      · cases e
    · exact p2.elim
theorem si_rng3 (hg : Gl X "range") (hm : X.mg "range" = none) (ha : PA X [e, e2, e3] (tL G ds)) (hn : ds.length = 3) (hs : starEach [e, e2, e3] X.env = (false, eval e X.env) :: starEach [e2, e3] X.env) (hpl : (backTo pos (starEach [e2, e3] X.env)).any (·.1) = false) :
    PI X tg (.Call (.Name "range" p) [e, e2, e3] [] pos) (tI G (iRng ds)) := (pi_range3 hg hm ha hs hpl).pv fun σ H R ⟨M, env, Rl, p⟩ => by
  refine Post.bindL Rl p fun vs e2 xs M2 H2 q x2 R2 r2 p2 => ?_
  have hl := dList_len q
  rw [hn] at hl
  simp only at p2 hl
  match vs, hl with
  | [v, w, u], _ =>
    cases v <;> try exact p2.elim
    cases w <;> try exact p2.elim
    cases u <;> try exact p2.elim
    rename_i i j c _
    rw [rpl_cons] at r2
    obtain ⟨x, r, rfl, h1, h2⟩ := r2
    rw [rpl_cons] at h2
    obtain ⟨y, r, rfl, h2, h3⟩ := h2
    rw [rpl_cons] at h3
    obtain ⟨z, r, rfl, h3, h4⟩ := h3
    rw [rp_int] at h1 h2 h3; rw [rpl_nil] at h4; subst h1 h2 h3 h4
    simp only [rangeV] at p2
    split at p2
    · rename_i vs e
      split at e
      · rename_i h
        simp only [Bool.and_eq_true, decide_eq_true_eq] at h
        obtain ⟨⟨h1, h2⟩, rfl⟩ := h
        cases e
        exact ⟨i, j, -1, _, rfl, RgC.neg (rgOk_iff h1).1 (rgOk_iff h1).2 (rgOk_iff h2).1 (rgOk_iff h2).2, p2 M2 H2 .refl R2 _ itOk_rngC⟩
      · cases e
    · exact p2.elim
end
end PV

namespace PV
open PySem PySem.Spec PyProof.Rows L2
open PySem.W (dataLt alike alikeAll lt_data gt_data le_data ge_data AlikeAll minD maxD min_list_data max_list_data min_tuple_data max_tuple_data sorted_data AllAlike Sortable EachIs dataLe)

/-- builtins, by values -/
def OpSLR (K : PySem.W.Frag) (r : List V → Hp → VK → Prop) (f : Val → Res (Val × Bool)) : Prop :=
  ∀ H A v x, (∀ a, A a → H a ≠ none) → RdR K H A v x → Ans K H A (r [x]) (f v)
def on1 (f : Val → Res (Val × Bool)) : List Val → Res (Val × Bool)
  | [v] => f v
  | _ => .bad
def on2 (f : Val → Val → Res (Val × Bool)) : List Val → Res (Val × Bool)
  | [v, w] => f v w
  | _ => .bad
theorem OpSLR.opl {K : PySem.W.Frag} {r : List V → Hp → VK → Prop} {f : Val → Res (Val × Bool)} (h : OpSLR K r f) : OpSL K r (on1 f) := fun H A vs xs al l => by
  match vs with
  | [] => exact bad_ans
  | [v] => rw [rpl_cons] at l; obtain ⟨x, r, rfl, h1, h2⟩ := l; rw [rpl_nil] at h2; subst h2; exact h H A v x al h1.rdr
  | _ :: _ :: _ => exact bad_ans
def dCBS (f : Val → Res (Val × Bool)) (i : Nat) : ED := fun env => match env[i]? with
  | some (.frz v) | some (.own v) => f v >>= fun z => .ok (z.1, z.2, env)
  | _ => .bad
theorem tE_CBS {G : Cfg} {r : List V → Hp → VK → Prop} {f : Val → Res (Val × Bool)} {i : Nat} (hs : OpSLR G.K r f) {σ : L2.St} {H : Hp} {Q : VK} (h : tE G (dCBS f i) σ H Q) : tCB r (tCons (tVar i) tNil) σ H Q := by
  obtain ⟨M, env, R, p⟩ := h
  have fin : ∀ v, (env[i]? = some (.frz v) ∨ env[i]? = some (.own v)) → Post G M H (okE G σ Q) (f v >>= fun z => .ok (z.1, z.2, env)) → tCB r (tCons (tVar i) tNil) σ H Q := fun v hv p => by
    obtain ⟨x, e, rr⟩ := R.rdr hv
    exact ⟨x, e, fin_ans R (hs H _ v x R.al rr) p⟩
  unfold dCBS at p
  split at p
  · rename_i v h; exact fin v (.inl h) p
  · rename_i v h; exact fin v (.inr h) p
  · exact p.elim

/-! len -/
def oLen : Val → Res (Val × Bool)
  | .str s => if s.length ≤ sizeLine then .ok (.int s.length, false) else .bad
  | .tup vs => .ok (.int vs.length, false)
  | .lst vs => .ok (.int vs.length, false)
  | .dK kvs => .ok (.int kvs.length, false)
  | _ => .bad
def rLenV (K : PySem.W.Frag) : List V → Hp → VK → Prop := fun xs H Q => (∃ x n, xs = [x] ∧ LenV K x H n ∧ Q (.int n) H) ∨ ∃ a kvs, xs = [V.ref a] ∧ Rd H a (.dK kvs) ∧ Q (.int kvs.length) H
theorem call_lenV {X : Cx} : CallR X (.builtin "len") (rLenV X.K) := by
  intro pins s σ H xs us Q I r h
  rcases h with h | ⟨a, kvs, rfl, ha, q⟩
  · exact call_len pins s σ H xs us Q I r h
  · cases r with
    | cons r1 r2 =>
      cases r2
      cases r1
      exact d_len I ha fun t s' I' => ⟨.int kvs.length, H, I', ⟨t, rfl⟩, q⟩
theorem s_len {K : PySem.W.Frag} : OpSLR K (rLenV K) oLen := by
  intro H A v x al hv
  cases v <;> try exact bad_ans
  case str s =>
    have hv : Rp K H A (.str s) x := hv
    rw [rp_str] at hv; subst hv
    show Ans _ _ _ _ (if s.length ≤ sizeLine then _ else _)
    split
    · rename_i h; exact ans_pure _ (fun _ => rp_int.mpr rfl) fun Q q => .inl ⟨_, s.length, rfl, ⟨h, rfl⟩, q⟩
    · exact bad_ans
  case tup vs =>
    have hv : Rp K H A (.tup vs) x := hv
    rw [rp_tup] at hv
    obtain ⟨a, xs, rfl, _, ha, l, _⟩ := hv
    exact ans_pure _ (fun _ => rp_int.mpr rfl) fun Q q => .inl ⟨_, vs.length, rfl, .inr ⟨xs, SqT.of ha, l.length.symm⟩, q⟩
  case lst vs =>
    obtain ⟨a, xs, rfl, ha, l, _⟩ := hv
    exact ans_pure _ (fun _ => rp_int.mpr rfl) fun Q q => .inl ⟨_, vs.length, rfl, .inl ⟨xs, SqL.of ha, l.length.symm⟩, q⟩
  case dK vs =>
    obtain ⟨a, xs, rfl, ha, l, _⟩ := hv
    exact ans_pure _ (fun _ => rp_int.mpr rfl) fun Q q => .inr ⟨a, xs, rfl, ha, by rw [l.length]; exact q⟩

/-! sum -/
def intsV : List Val → Option (List Int)
  | [] => some []
  | .int i :: vs => (intsV vs).map (i :: ·)
  | _ => none
theorem intsV_map (is : List Int) : intsV (is.map .int) = some is := by
  induction is with
  | nil => rfl
  | cons i is ih => simp [intsV, ih]
theorem intsV_rp {K : PySem.W.Frag} {H : Hp} {A : AP} : ∀ {vs : List Val} {xs : List V} {is : List Int}, intsV vs = some is → RpL K H A vs xs → xs = is.map V.int
  | [], xs, is, e, l => by rw [rpl_nil] at l; subst l; cases e; rfl
  | v :: vs, xs, is, e, l => by
    rw [rpl_cons] at l
    obtain ⟨x, r, rfl, h1, h2⟩ := l
    cases v <;> try (cases e; done)
    rename_i i
    change (intsV vs).map (i :: ·) = some is at e
    cases q : intsV vs with
    | none => rw [q] at e; cases e
    | some js =>
      rw [q] at e; cases e
      rw [rp_int] at h1; subst h1
      rw [intsV_rp q h2]; rfl
def rSumV (K : PySem.W.Frag) : List V → Hp → VK → Prop := fun vs H Q => ∃ (a : Addr) (ns : List Int), vs = [V.ref a] ∧ (SqL K H a (ns.map V.int) ∨ SqT K H a (ns.map V.int)) ∧ Q (.int ns.sum) H
theorem preSum_getD (ns : List Int) : ∀ n, n ≤ ns.length → preSum (fun i => ns.getD i 0) n = (ns.take n).sum
  | 0, _ => by simp [preSum]
  | n + 1, h => by
    rw [preSum, preSum_getD ns n (by omega), List.take_succ, List.sum_append]
    simp [List.getD, List.getElem?_eq_getElem (show n < ns.length by omega)]
theorem call_sumV {X : Cx} (hc : X.calm = true) : CallR X (.builtin "sum") (rSumV X.K) := by
  intro pins s σ H vs us Q I r h
  obtain ⟨a, ns, rfl, hs, q⟩ := h
  rcases hs with hs | hs
  · exact cr_sum hc pins s σ H _ us Q I r ⟨a, ns, rfl, hs, q⟩
  · rw [Vals.ref1 r]
    obtain ⟨its, rv, p, hz⟩ := I.tuple hs
    have ia : IntsAre its ns := rv.ints
    have hlt : a < s.heap.objs.size := by obtain ⟨_, e, _⟩ := id p; exact Heap.lt_size e
    refine call_sum_walkG (wpAny_pyIter_tuple (show s.heap.IsTuple a its.toArray from p) ?_)
    refine ⟨s.heap.objs.size, _, _, _, _, _, fun i => ns.getD i 0, rfl, Walks.tuple (A := X.A.in1) (I.ok.hd hc) _ a (Nat.ne_of_lt hlt) its.toArray, ⟨⟨_, Heap.get?_push_size _ rfl, rfl, rfl⟩, Heap.IsTuple.push p _⟩, fun b hb => ?_, fun i v e => ?_, fun h' tk t' hk => ?_⟩
    · show b < (s.heap.push _).objs.size
      rw [Heap.size_push]
      have : b = s.heap.objs.size ∨ b = a := by simpa using hb
      rcases this with rfl | rfl
      · exact Nat.lt_succ_self _
      · exact Nat.lt_succ_of_lt hlt
    · have hi : i < its.length := by simpa using (Array.getElem?_eq_some_iff.mp e).1
      obtain ⟨t, et⟩ := PyProof.Rows.IntsAre.int_at ia i its.toArray[i] (by simp [hi])
      refine ⟨t, ?_⟩
      have : its.toArray[i] = v := by
        obtain ⟨_, z⟩ := Array.getElem?_eq_some_iff.mp e
        exact z
      rw [← this]; exact et
    · have e1 : its.toArray.size = ns.length := by rw [List.size_toArray]; exact ia.length
      rw [e1, preSum_getD ns _ (Nat.le_refl _), List.take_length]
      refine ⟨.int _, H, I.kept (t' := tk) (fun b o e => hk b o (fun hb => ?_) (Heap.get?_push_of_some _ e)), ⟨_, rfl⟩, q⟩
      have : b = s.heap.objs.size := by simpa using hb
      subst this
      exact absurd (Heap.lt_size e) (Nat.lt_irrefl _)
def oSum : Val → Res (Val × Bool)
  | .lst vs => match intsV vs with
    | some is => .ok (.int is.sum, false)
    | none => .bad
  | .tup vs => match intsV vs with
    | some is => .ok (.int is.sum, false)
    | none => .bad
  | _ => .bad
theorem s_sum {K : PySem.W.Frag} : OpSLR K (rSumV K) oSum := by
  intro H A v x al hv
  cases v <;> try exact bad_ans
  case tup vs =>
    have hv : Rp K H A (.tup vs) x := hv
    rw [rp_tup] at hv
    obtain ⟨a, xs, rfl, _, ha, l, _⟩ := hv
    show Ans _ _ _ _ (match intsV vs with | some is => _ | none => _)
    cases e : intsV vs with
    | none => exact bad_ans
    | some is => exact ans_pure _ (fun _ => rp_int.mpr rfl) fun Q q => ⟨a, is, rfl, .inr (by rw [← intsV_rp e l]; exact SqT.of ha), q⟩
  case lst vs =>
    obtain ⟨a, xs, rfl, ha, l, _⟩ := hv
    show Ans _ _ _ _ (match intsV vs with | some is => _ | none => _)
    cases e : intsV vs with
    | none => exact bad_ans
    | some is => exact ans_pure _ (fun _ => rp_int.mpr rfl) fun Q q => ⟨a, is, rfl, .inl (by rw [← intsV_rp e l]; exact SqL.of ha), q⟩

/-! min, max, sorted of data -/
def dataOk (vs : List Val) : Bool := PyData.canLayAll0 (toDs vs) && decide (PyData.depthAll (toDs vs) ≤ 60)
def alikesV (vs : List Val) : Bool := vs.all fun v => vs.all fun w => alike (toD v) (toD w)
def minV (v : Val) (vs : List Val) : Val := vs.foldl (fun a y => if ltV y a then y else a) v
def maxV (v : Val) (vs : List Val) : Val := vs.foldl (fun a y => if ltV a y then y else a) v
theorem minV_toD : ∀ (vs : List Val) (v : Val), toD (minV v vs) = minD (toD v) (vs.map toD)
  | [], v => rfl
  | y :: vs, v => by
    show toD (minV (if ltV y v then y else v) vs) = minD (if dataLt (toD y) (toD v) then toD y else toD v) (vs.map toD)
    rw [minV_toD vs]
    unfold ltV
    cases dataLt (toD y) (toD v) <;> rfl
theorem maxV_toD : ∀ (vs : List Val) (v : Val), toD (maxV v vs) = maxD (toD v) (vs.map toD)
  | [], v => rfl
  | y :: vs, v => by
    show toD (maxV (if ltV v y then y else v) vs) = maxD (if dataLt (toD v) (toD y) then toD y else toD v) (vs.map toD)
    rw [maxV_toD vs]
    unfold ltV
    cases dataLt (toD v) (toD y) <;> rfl
theorem minV_mem : ∀ (vs : List Val) (v : Val), minV v vs ∈ v :: vs
  | [], v => List.mem_cons_self
  | y :: vs, v => by
    show minV (if ltV y v then y else v) vs ∈ _
    have := minV_mem vs (if ltV y v then y else v)
    rcases List.mem_cons.mp this with e | h
    · rw [e]; split <;> simp
    · exact List.mem_cons_of_mem _ (List.mem_cons_of_mem _ h)
theorem maxV_mem : ∀ (vs : List Val) (v : Val), maxV v vs ∈ v :: vs
  | [], v => List.mem_cons_self
  | y :: vs, v => by
    show maxV (if ltV v y then y else v) vs ∈ _
    have := maxV_mem vs (if ltV v y then y else v)
    rcases List.mem_cons.mp this with e | h
    · rw [e]; split <;> simp
    · exact List.mem_cons_of_mem _ (List.mem_cons_of_mem _ h)
mutual
theorem toD_inj : ∀ (v w : Val), (toD v).canLay0 = true → (toD w).canLay0 = true → toD v = toD w → v = w
  | .non, w, h1, h2, e => by cases w <;> simp [toD, PyData.canLay0] at e h2 ⊢
  | .bl b, w, h1, h2, e => by cases w <;> simp [toD, PyData.canLay0] at e h2 ⊢; exact e
  | .int b, w, h1, h2, e => by cases w <;> simp [toD, PyData.canLay0] at e h2 ⊢; exact e
  | .str b, w, h1, h2, e => by cases w <;> simp [toD, PyData.canLay0] at e h2 ⊢; exact e
  | .tup vs, w, h1, h2, e => by
    cases w <;> simp only [toD, PyData.canLay0] at e h1 h2 <;> try (cases e; done)
    rw [PyData.tuple.injEq] at e
    rw [toDs_inj vs _ h1 h2 e]
  | .lst vs, w, h1, h2, e => by
    cases w <;> simp only [toD, PyData.canLay0] at e h1 h2 <;> try (cases e; done)
    rw [PyData.list.injEq] at e
    rw [toDs_inj vs _ h1 h2 e]
  | .dK _, w, h1, h2, e => by simp [toD, PyData.canLay0] at h1
  | .dT _, w, h1, h2, e => by simp [toD, PyData.canLay0] at h1
  | .ty _, w, h1, h2, e => by simp [toD, PyData.canLay0] at h1
  | .glo _, w, h1, h2, e => by simp [toD, PyData.canLay0] at h1
  | .scr _, w, h1, h2, e => by simp [toD, PyData.canLay0] at h1
  | .rng _ _, w, h1, h2, e => by simp [toD, PyData.canLay0] at h1
theorem toDs_inj : ∀ (vs ws : List Val), PyData.canLayAll0 (toDs vs) = true → PyData.canLayAll0 (toDs ws) = true → toDs vs = toDs ws → vs = ws
  | [], ws, h1, h2, e => by cases ws <;> simp [toDs] at e ⊢
  | v :: vs, ws, h1, h2, e => by
    cases ws with
    | nil => simp [toDs] at e
    | cons w ws =>
      simp only [toDs, PyData.canLayAll0, Bool.and_eq_true, List.cons.injEq] at h1 h2 e
      rw [toD_inj v w h1.1 h2.1 e.1, toDs_inj vs ws h1.2 h2.2 e.2]
end
theorem lay_mem : ∀ {vs : List Val} {v : Val}, PyData.canLayAll0 (toDs vs) = true → v ∈ vs → (toD v).canLay0 = true
  | w :: vs, v, h, m => by
    simp only [toDs, PyData.canLayAll0, Bool.and_eq_true] at h
    rcases List.mem_cons.mp m with rfl | m
    · exact h.1
    · exact lay_mem h.2 m
/-- the least or greatest of a list or tuple of data -/
def rBest (K : PySem.W.Frag) (best : PyData → List PyData → PyData) : List V → Hp → VK → Prop := fun vs H Q => ∃ (a : Addr) (xs : List V) (d : PyData) (ds : List PyData), vs = [.ref a] ∧ (SqL K H a xs ∨ SqT K H a xs) ∧ DpAll K H xs (d :: ds) ∧
  PyData.canLayAll0 (d :: ds) = true ∧ AlikeAll (d :: ds) ∧ PyData.depthAll (d :: ds) ≤ 60 ∧ ∀ (i : Nat) (x : V), xs[i]? = some x → (d :: ds)[i]? = some (best d ds) → Q x H
section
variable {X : Cx} {K : PySem.W.Frag}
theorem reads_ix {h : Heap} {vs : List Value} {ds : List PyData} {as bs : List Addr} {i : Nat} {v : Value} {d : PyData} (lay : PyData.canLayAll0 ds = true) (hr : ReadsAll h vs ds as) (e : vs[i]? = some v) (r : Reads h v d bs) (hd : d.canLay0 = true) : ds[i]? = some d := by
  have := SeqAt.readsAll_map ds vs as lay hr
  rw [← this, List.getElem?_map, e]
  exact congrArg some (SeqAt.readOf_eq hd r)
theorem best_lay {ds : List PyData} {f : PyData → PyData → Bool} : ∀ {d : PyData}, PyData.canLayAll0 (d :: ds) = true → (ds.foldl (fun a y => if f a y then y else a) d).canLay0 = true := by
  induction ds with
  | nil => intro d h; simpa [PyData.canLayAll0] using h
  | cons y ds ih =>
    intro d h
    simp only [PyData.canLayAll0, Bool.and_eq_true] at h
    refine ih ?_
    simp only [PyData.canLayAll0, Bool.and_eq_true]
    split
    · exact h.2
    · exact ⟨h.1, h.2.2⟩
theorem call_minV (hc : X.calm = true) (hu : X.A.units + 64 < cLine) : CallR X (.builtin "min") (rBest X.K minD) := by
  intro pins s σ H vs us Q I r h
  obtain ⟨a, xs, d, ds, rfl, hs, dp, lay, al, dep, q⟩ := h
  rw [Vals.ref1 r]
  have fin : ∀ (its : List Value), Vals xs its → ∀ (i : Nat) v h' tk bs, its.toArray[i]? = some v → Reads h' v (minD d ds) bs → (∀ b o, s.heap.get? b = some o → h'.get? b = some o) → (∃ as, ReadsAll s.heap its (d :: ds) as) → EP X pins σ Q v { s with heap := h', toks := tk } := fun its rv i v h' tk bs e rd hk ⟨as, ra⟩ => by
    have e' : its[i]? = some v := by simpa using e
    have hx : ∃ x, xs[i]? = some x ∧ RelV x v := by
      cases q : xs[i]? with
      | none => have := rv.none_of q; rw [this] at e'; cases e'
      | some x => obtain ⟨u, h1, h2⟩ := rv.get q; rw [h1] at e'; cases e'; exact ⟨x, rfl, h2⟩
    obtain ⟨x, ex, rx⟩ := hx
    refine ⟨x, H, I.kept (t' := tk) hk, rx, q i x ex ?_⟩
    obtain ⟨as', ra'⟩ : ∃ as', ReadsAll h' its (d :: ds) as' := ⟨_, PyProof.Rows.ReadsAll.keeps hk ra⟩
    exact reads_ix lay ra' e' rd (best_lay (f := fun a y => dataLt y a) lay)
  rcases hs with hs | hs
  · obtain ⟨its, rv, p, hz⟩ := I.list hs
    obtain ⟨as, ra⟩ := Dp.readsAll I (d :: ds) _ its dp rv
    exact min_list_data (I.ok.hd hc) p.isList (by simpa using ra) al (by omega) fun i v h' tk bs e rd hk => fin its rv i v h' tk bs e rd hk ⟨as, ra⟩
  · obtain ⟨its, rv, p, hz⟩ := I.tuple hs
    obtain ⟨as, ra⟩ := Dp.readsAll I (d :: ds) _ its dp rv
    exact min_tuple_data (I.ok.hd hc) (show s.heap.IsTuple a its.toArray from p) (by simpa using ra) al (by omega) fun i v h' tk bs e rd hk => fin its rv i v h' tk bs e rd hk ⟨as, ra⟩
theorem call_maxV (hc : X.calm = true) (hu : X.A.units + 64 < cLine) : CallR X (.builtin "max") (rBest X.K maxD) := by
  intro pins s σ H vs us Q I r h
  obtain ⟨a, xs, d, ds, rfl, hs, dp, lay, al, dep, q⟩ := h
  rw [Vals.ref1 r]
  have fin : ∀ (its : List Value), Vals xs its → ∀ (i : Nat) v h' tk bs, its.toArray[i]? = some v → Reads h' v (maxD d ds) bs → (∀ b o, s.heap.get? b = some o → h'.get? b = some o) → (∃ as, ReadsAll s.heap its (d :: ds) as) → EP X pins σ Q v { s with heap := h', toks := tk } := fun its rv i v h' tk bs e rd hk ⟨as, ra⟩ => by
    have e' : its[i]? = some v := by simpa using e
    have hx : ∃ x, xs[i]? = some x ∧ RelV x v := by
      cases q : xs[i]? with
      | none => have := rv.none_of q; rw [this] at e'; cases e'
      | some x => obtain ⟨u, h1, h2⟩ := rv.get q; rw [h1] at e'; cases e'; exact ⟨x, rfl, h2⟩
    obtain ⟨x, ex, rx⟩ := hx
    refine ⟨x, H, I.kept (t' := tk) hk, rx, q i x ex ?_⟩
    obtain ⟨as', ra'⟩ : ∃ as', ReadsAll h' its (d :: ds) as' := ⟨_, PyProof.Rows.ReadsAll.keeps hk ra⟩
    exact reads_ix lay ra' e' rd (best_lay (f := fun a y => dataLt a y) lay)
  rcases hs with hs | hs
  · obtain ⟨its, rv, p, hz⟩ := I.list hs
    obtain ⟨as, ra⟩ := Dp.readsAll I (d :: ds) _ its dp rv
    exact max_list_data (I.ok.hd hc) p.isList (by simpa using ra) al (by omega) fun i v h' tk bs e rd hk => fin its rv i v h' tk bs e rd hk ⟨as, ra⟩
  · obtain ⟨its, rv, p, hz⟩ := I.tuple hs
    obtain ⟨as, ra⟩ := Dp.readsAll I (d :: ds) _ its dp rv
    exact max_tuple_data (I.ok.hd hc) (show s.heap.IsTuple a its.toArray from p) (by simpa using ra) al (by omega) fun i v h' tk bs e rd hk => fin its rv i v h' tk bs e rd hk ⟨as, ra⟩
def bestOk (v : Val) (vs : List Val) : Bool := dataOk (v :: vs) && alikesV (v :: vs) && (v :: vs).all fun w => match w with | .non => false | _ => true
def oBest (best : Val → List Val → Val) : Val → Res (Val × Bool)
  | .lst (v :: vs) => if bestOk v vs then .ok (best v vs, false) else .bad
  | .tup (v :: vs) => if bestOk v vs then .ok (best v vs, false) else .bad
  | _ => .bad
theorem alikeAll_of {v : Val} {vs : List Val} (h : bestOk v vs = true) : AlikeAll (toD v :: toDs vs) := by
  unfold bestOk at h
  simp only [Bool.and_eq_true, alikesV, List.all_eq_true] at h
  have e : toD v :: toDs vs = (v :: vs).map toD := by rw [toDs_map]; rfl
  rw [e]
  refine ⟨fun x hx y hy => ?_, fun x hx => ?_⟩
  · obtain ⟨a, ha, rfl⟩ := List.mem_map.mp hx
    obtain ⟨b, hb, rfl⟩ := List.mem_map.mp hy
    exact h.1.2 a ha b hb
  · obtain ⟨a, ha, rfl⟩ := List.mem_map.mp hx
    have := h.2 a ha
    cases a <;> simp [toD] at this ⊢
theorem s_best {bD : PyData → List PyData → PyData} {best : Val → List Val → Val} (hb : ∀ vs v, toD (best v vs) = bD (toD v) (vs.map toD)) (hm : ∀ vs v, best v vs ∈ v :: vs) : OpSLR K (rBest K bD) (oBest best) := by
  intro H A v x al hv
  have key : ∀ (v : Val) (vs : List Val) (a : Addr) (xs : List V), RpL K H A (v :: vs) xs → (SqL K H a xs ∨ SqT K H a xs) → bestOk v vs = true → Ans K H A (rBest K bD [.ref a]) (.ok (best v vs, false)) := fun v vs a xs l hs ok => by
    have ok' := ok
    unfold bestOk dataOk at ok'
    simp only [Bool.and_eq_true, decide_eq_true_eq] at ok'
    intro Q q
    refine ⟨a, xs, toD v, toDs vs, rfl, hs, RpL.dp (v :: vs) xs ok'.1.1.1 l, ok'.1.1.1, alikeAll_of ok, ok'.1.1.2, fun i x ex e => ?_⟩
    obtain ⟨w, ew, rw_⟩ := l.get' ex
    have e2 : toD w = bD (toD v) (toDs vs) := by
      have : (toD v :: toDs vs) = (v :: vs).map toD := by rw [toDs_map]; rfl
      rw [this, List.getElem?_map, ew] at e
      exact Option.some.inj e
    have e3 : w = best v vs := toD_inj _ _ (lay_mem ok'.1.1.1 (List.mem_of_getElem? ew)) (lay_mem ok'.1.1.1 (hm vs v)) (by rw [hb, e2, toDs_map])
    subst e3
    exact q x H (fun _ _ e => e) rw_
  cases v <;> try exact bad_ans
  case tup vs =>
    cases vs with
    | nil => exact bad_ans
    | cons v vs =>
      have hv : Rp K H A (.tup (v :: vs)) x := hv
      rw [rp_tup] at hv
      obtain ⟨a, xs, rfl, _, ha, l, _⟩ := hv
      show Ans _ _ _ _ (if bestOk v vs then _ else _)
      split
      · rename_i h; exact key v vs a xs l (.inr (SqT.of ha)) h
      · exact bad_ans
  case lst vs =>
    cases vs with
    | nil => exact bad_ans
    | cons v vs =>
      obtain ⟨a, xs, rfl, ha, l, _⟩ := hv
      show Ans _ _ _ _ (if bestOk v vs then _ else _)
      split
      · rename_i h; exact key v vs a xs l (.inl (SqL.of ha)) h
      · exact bad_ans
theorem s_min : OpSLR K (rBest K minD) (oBest minV) := s_best minV_toD minV_mem
theorem s_max : OpSLR K (rBest K maxD) (oBest maxV) := s_best maxV_toD maxV_mem
end
end PV

namespace PV
open PySem PySem.Spec PyProof.Rows L2
open PySem.W (dataLt alike alikeAll lt_data gt_data le_data ge_data AlikeAll minD maxD min_list_data max_list_data min_tuple_data max_tuple_data sorted_data AllAlike Sortable EachIs dataLe readsAll_each)

/-! ### sorted -/
theorem vals_of_each : ∀ {out : List Value} {bs : List (V × PyData)}, EachIs (fun u (b : V × PyData) => RelV b.1 u) out bs → Vals (bs.map (·.1)) out
  | _, _, .nil => .nil
  | _, _, .cons r t => .cons r (vals_of_each t)
theorem each_of_vals : ∀ {us : List Value} {xs : List V} {ds : List PyData}, Vals xs us → xs.length = ds.length → EachIs (fun u (b : V × PyData) => RelV b.1 u) us (xs.zip ds)
  | _, _, [], .nil, _ => .nil
  | _, _, _ :: _, .nil, h => by simp at h
  | _, _, d :: ds, .cons r t, h => .cons r (each_of_vals t (by simpa using h))
  | _, _, [], .cons r t, h => by simp at h
def rSortV (K : PySem.W.Frag) : List V → Hp → VK → Prop := fun vs H Q => ∃ (a : Addr) (xs : List V) (ds : List PyData), vs = [.ref a] ∧ (SqL K H a xs ∨ SqT K H a xs) ∧ DpAll K H xs ds ∧ PyData.canLayAll0 ds = true ∧ AllAlike ds ∧ Sortable ds ∧ PyData.depthAll ds ≤ 60 ∧
  ∀ p, H p = none → Q (.ref p) (upd H p (.lst (((xs.zip ds).mergeSort (dataLe false Prod.snd)).map (·.1))))
theorem dpAll_length {K : PySem.W.Frag} {H : Hp} : ∀ {xs : List V} {ds : List PyData}, DpAll K H xs ds → xs.length = ds.length
  | _, _, .nil => rfl
  | _, _, .cons _ t => by simp [dpAll_length t]
theorem depth_mem : ∀ {ds : List PyData} {d : PyData}, d ∈ ds → d.depth ≤ PyData.depthAll ds
  | e :: ds, d, h => by
    rw [PyData.depthAll]
    rcases List.mem_cons.mp h with rfl | h
    · omega
    · have := depth_mem h; omega
/-- sorted(v), v collected in any way -/
theorem sorted_from {prog : Program} {w : World} {A : Around} {E : Value → Shared → Prop} {s : Shared} {v : Value} {β : Type} {vs : List Value} {bs : List β} {enc : β → PyData} {R : Value → β → Prop} {Q : Value → Shared → Prop}
    (hcol : ∀ (E' : Value → Shared → Prop) (Q' : List Value → Shared → Prop), (∀ h' tk, (∀ b o, s.heap.get? b = some o → h'.get? b = some o) → Q' vs { s with heap := h', toks := tk }) → wpAny (model prog w) A.in1 (collect v) Q' E' s)
    (e : EachIs R vs bs) (er : EachIs (fun v b => ∃ as, Reads s.heap v (enc b) as) vs bs) (hal : AllAlike (bs.map enc)) (hk : Sortable (bs.map enc)) (hL : bs.length ≤ sizeLine) (hu : ∀ b, b ∈ bs → A.units + 2 + (enc b).depth < cLine)
    (h : ∀ out h2 tk p n, out.length = bs.length → EachIs R out (bs.mergeSort (dataLe false enc)) → (∀ b o, s.heap.get? b = some o → h2.get? b = some o) → s.heap.get? p = none → h2.get? p = some (seqObj "list" (List.toArray out) n) → Q (.ref p) { s with heap := h2, toks := tk }) :
    wpAny (model prog w) A (call (.builtin "sorted") [v]) Q E s := by
  have hlen : vs.length ≤ sizeLine := by rw [e.length]; exact hL
  refine call_function_entry_kw kind_sorted plain_sorted entry_sorted (args_sorted1 _) ?_
  unfold Builtin.«sorted»
  refine wpAny_bind (m := checkCount "sorted" 1 1 _) (wpAny_pure (wpAny_bind (hcol _ _ fun h1 tk k1 => wpAny_bind (wpAny_newList ?_ hlen))))
  have hat : (h1.push (seqObj "list" vs.toArray 0)).get? h1.objs.size = some (seqObj "list" vs.toArray 0) := Heap.get?_push_size _ rfl
  have old2 : ∀ b o, s.heap.get? b = some o → (h1.push (seqObj "list" vs.toArray 0)).get? b = some o := fun b o q => Heap.get?_push_of_some _ (k1 b o q)
  have old3 : ∀ b o, s.heap.get? b = some o → (PySem.W.sortingHeap (h1.push (seqObj "list" vs.toArray 0)) h1.objs.size vs).get? b = some o := fun b o q =>
    PySem.W.sortingHeap_old (Nat.ne_of_lt (Heap.lt_size (k1 b o q))) (old2 b o q)
  have er' : EachIs (fun v b => ∃ as, Reads (PySem.W.sortingHeap (h1.push (seqObj "list" vs.toArray 0)) h1.objs.size vs) v (enc b) as) vs bs := er.mono fun _ _ ⟨as, r⟩ => ⟨as, PyProof.Rows.Reads.keeps old3 r⟩
  refine wpAny_bind (wpAny_holding (wpAny_call_entry_kw slot_list_sort ⟨_, hat, rfl⟩ entry_list_sort ?body (args_list_sort _)))
  case body =>
    refine PySem.W.list_sort_vals (s := { s with heap := h1.push (seqObj "list" vs.toArray 0), toks := tk }) hat
      (PySem.W.SortsAt.data (s := { s with heap := PySem.W.sortingHeap (h1.push (seqObj "list" vs.toArray 0)) h1.objs.size vs, toks := tk }) (PySem.W.each_map (R := fun v d => ∃ as, Reads (PySem.W.sortingHeap (h1.push (seqObj "list" vs.toArray 0)) h1.objs.size vs) v d as) enc er') hal hk (PySem.W.bound_map hu)) hlen ?_
    refine ⟨_, rfl, wpAny_pure ⟨_, rfl, ?_⟩⟩
    obtain ⟨n, en⟩ := sortedHeap_at (out := (PySem.W.sortVals (PySem.W.dataKind (PySem.W.sortingHeap (h1.push (seqObj "list" vs.toArray 0)) h1.objs.size vs) (bs.map enc)) false vs vs).toArray) hat
    refine h _ _ tk h1.objs.size n (by rw [PySem.W.sortVals_length false rfl]; exact e.length) (PySem.W.sortVals_data false e er' hal) (fun b o q => ?_) ?_ en
    rotate_left
    · cases e : s.heap.get? h1.objs.size with
      | none => rfl
      | some o => exact absurd (Heap.lt_size (k1 _ _ e)) (Nat.lt_irrefl _)
    have lb : b < h1.objs.size := Heap.lt_size (k1 b o q)
    rw [sortedHeap_old (Nat.ne_of_lt lb) (by rw [Heap.size_push]; exact Nat.lt_succ_of_lt lb)]
    exact old2 b o q
theorem call_sortV {X : Cx} (hu : X.A.units + 64 < cLine) : CallR X (.builtin "sorted") (rSortV X.K) := by
  intro pins s σ H vs us Q I r h
  obtain ⟨a, xs, ds, rfl, hs, dp, lay, al, so, dep, q⟩ := h
  rw [Vals.ref1 r]
  have hl := dpAll_length dp
  have em : (xs.zip ds).map Prod.snd = ds := by rw [List.map_snd_zip]; omega
  have hlz : (xs.zip ds).length = xs.length := by rw [List.length_zip]; omega
  rcases hs with hs | hs
  · obtain ⟨its, rv, p, hz⟩ := I.list hs
    obtain ⟨as, ra⟩ := Dp.readsAll I ds _ its dp rv
    refine sorted_data (R := fun u (b : V × PyData) => RelV b.1 u) (bs := xs.zip ds) (enc := Prod.snd) p.isList (each_of_vals rv hl) (readsAll_each Prod.snd (by rw [em]; exact ra)) (by rw [em]; exact al) (by rw [em]; exact so) (by rw [hlz]; exact hz) (fun b hb => ?_) fun out ho eo => ?_
    · have : b.2 ∈ ds := by rw [← em]; exact List.mem_map_of_mem hb
      have := depth_mem this
      omega
    · have rv' := vals_of_each eo
      have hlen : (((xs.zip ds).mergeSort (dataLe false Prod.snd)).map (·.1)).length ≤ sizeLine := by rw [List.length_map, (List.mergeSort_perm _ _).length_eq, hlz]; exact hz
      obtain ⟨ep, he⟩ := PyProof.Rows.sortedAll_at s.heap its out.toArray
      refine ⟨.ref _, upd H (s.heap.objs.size + 1) (.lst (((xs.zip ds).mergeSort (dataLe false Prod.snd)).map (·.1))), I.laid (t' := s.toks) (fun _ _ => PyProof.Rows.sortedAll_old) (Nat.le_succ _) ⟨hlen, out, ep, rv', he⟩, rfl, q _ (I.hok.fresh (Nat.le_succ _))⟩
  · obtain ⟨its, rv, p, hz⟩ := I.tuple hs
    obtain ⟨as, ra⟩ := Dp.readsAll I ds _ its dp rv
    have hlen0 : its.length ≤ sizeLine := by rw [← rv.length]; exact hz
    refine sorted_from (R := fun u (b : V × PyData) => RelV b.1 u) (bs := xs.zip ds) (enc := Prod.snd) (fun E' Q' hq => by
      obtain ⟨o, ho, hc, n, hd⟩ := id p
      exact wpAny_collect_seq a (.inr rfl) ho hc hd (fun h' k => hq h' s.toks k) (by rw [List.size_toArray]; exact hlen0)) (each_of_vals rv hl) (readsAll_each Prod.snd (by rw [em]; exact ra)) (by rw [em]; exact al) (by rw [em]; exact so) (by rw [hlz]; exact hz) (fun b hb => ?_) fun out h2 tk P n ho eo k fr hP => ?_
    · have : b.2 ∈ ds := by rw [← em]; exact List.mem_map_of_mem hb
      have := depth_mem this
      omega
    · have rv' := vals_of_each eo
      have hlen : (((xs.zip ds).mergeSort (dataLe false Prod.snd)).map (·.1)).length ≤ sizeLine := by rw [List.length_map, (List.mergeSort_perm _ _).length_eq, hlz]; exact hz
      have hn := I.hok.gone fr
      exact ⟨.ref _, _, I.laidN (t' := tk) k fr hn (o := .lst (((xs.zip ds).mergeSort (dataLe false Prod.snd)).map (·.1))) ⟨hlen, out, n, rv', hP⟩, rfl, q _ hn⟩
def leV (v w : Val) : Bool := !ltV w v
def sortV (vs : List Val) : List Val := vs.mergeSort leV
def sortOk (vs : List Val) : Bool := dataOk vs && alikesV vs && ((vs.all fun v => match v with | .tup (_ :: _) => true | _ => false) || (vs.all fun v => match v with | .tup _ => false | .non => false | _ => true))
def oSorted : Val → Res (Val × Bool)
  | .lst vs => if sortOk vs then .ok (.lst (sortV vs), true) else .bad
  | .tup vs => if sortOk vs then .ok (.lst (sortV vs), true) else .bad
  | _ => .bad
theorem RpL.of_pairs {K : PySem.W.Frag} {H : Hp} {A : AP} : ∀ {T : List (V × Val)}, (∀ t ∈ T, Rp K H A t.2 t.1) → RpL K H A (T.map (·.2)) (T.map (·.1))
  | [], _ => RpL.nil
  | t :: T, h => rpl_cc.mpr ⟨h t List.mem_cons_self, RpL.of_pairs fun u hu => h u (List.mem_cons_of_mem _ hu)⟩
theorem RpL.pairs {K : PySem.W.Frag} {H : Hp} {A : AP} : ∀ {vs : List Val} {xs : List V}, RpL K H A vs xs → ∃ T : List (V × Val), T.map (·.2) = vs ∧ T.map (·.1) = xs ∧ ∀ t ∈ T, Rp K H A t.2 t.1
  | [], xs, h => by rw [rpl_nil] at h; subst h; exact ⟨[], rfl, rfl, fun t h => by cases h⟩
  | v :: vs, xs, h => by
    rw [rpl_cons] at h
    obtain ⟨x, r, rfl, h1, h2⟩ := h
    obtain ⟨T, e1, e2, h3⟩ := RpL.pairs h2
    refine ⟨(x, v) :: T, by simp [e1], by simp [e2], fun t ht => ?_⟩
    rcases List.mem_cons.mp ht with rfl | ht
    · exact h1
    · exact h3 t ht
theorem s_sorted1 {K : PySem.W.Frag} {H : Hp} {A : AP} {vs : List Val} {a : Addr} {xs : List V} (hs : SqL K H a xs ∨ SqT K H a xs) (l : RpL K H A vs xs) (hz : vs.length ≤ sizeLine) : Ans K H A (rSortV K [.ref a]) (if sortOk vs then .ok (.lst (sortV vs), true) else .bad) := by
  show Ans _ _ _ _ (if sortOk vs then _ else _)
  split
  · rename_i ok
    unfold sortOk dataOk alikesV at ok
    simp only [Bool.and_eq_true, decide_eq_true_eq, List.all_eq_true] at ok
    obtain ⟨⟨⟨lay, dep⟩, alk⟩, so⟩ := ok
    intro Q q
    refine ⟨a, xs, toDs vs, rfl, hs, RpL.dp vs xs lay l, lay, ?_, ?_, dep, fun p hp => ?_⟩
    · rw [toDs_map]
      intro d hd d' hd'
      obtain ⟨b, hb, rfl⟩ := List.mem_map.mp hd
      obtain ⟨b', hb', rfl⟩ := List.mem_map.mp hd'
      exact alk b hb b' hb'
    · rw [toDs_map]
      rw [Bool.or_eq_true, List.all_eq_true, List.all_eq_true] at so
      rcases so with so | so
      · left
        intro d hd
        obtain ⟨b, hb, rfl⟩ := List.mem_map.mp hd
        have := so b hb
        cases b <;> try (simp at this; done)
        rename_i ws
        cases ws with
        | nil => simp at this
        | cons w ws => exact ⟨toD w, toDs ws, by rw [toD, toDs]⟩
      · right
        intro d hd
        obtain ⟨b, hb, rfl⟩ := List.mem_map.mp hd
        have := so b hb
        cases b <;> first
          | (simp at this; done)
          | simp [toD]
    · obtain ⟨T, e1, e2, h3⟩ := l.pairs
      have ez : xs.zip (toDs vs) = T.map fun t => (t.1, toD t.2) := by
        rw [toDs_map, ← e1, ← e2, List.map_map, List.zip_map']
        rfl
      have em : (xs.zip (toDs vs)).mergeSort (dataLe false Prod.snd) = (T.mergeSort fun s t => leV s.2 t.2).map fun t => (t.1, toD t.2) := by
        rw [ez, List.map_mergeSort]
        intro s _ t _
        rfl
      have ev : sortV vs = (T.mergeSort fun s t => leV s.2 t.2).map (·.2) := by
        unfold sortV
        rw [← e1, List.map_mergeSort]
        intro s _ t _
        rfl
      rw [em, List.map_map]
      refine q _ _ (same_upd hp) ?_
      rw [ev]
      refine new_lst hp ?_ (by rw [← ev]; unfold sortV; rw [(List.mergeSort_perm _ _).length_eq]; exact hz)
      exact RpL.of_pairs fun t ht => h3 t ((List.mergeSort_perm _ _).mem_iff.mp ht)
  · exact bad_ans

theorem s_sorted {K : PySem.W.Frag} : OpSLR K (rSortV K) oSorted := by
  intro H A v x al hv
  cases v <;> try exact bad_ans
  case lst vs =>
    obtain ⟨a, xs, rfl, ha, l, hz⟩ := hv
    exact s_sorted1 (.inl (SqL.of ha)) l hz
  case tup vs =>
    have hv : Rp K H A (.tup vs) x := hv
    rw [rp_tup] at hv
    obtain ⟨a, xs, rfl, _, ha, l, hz⟩ := hv
    exact s_sorted1 (.inr (SqT.of ha)) l hz

/-! ### all, any; list, tuple; int, abs; max, min of two -/
def boolsV : List Val → Option (List Bool)
  | [] => some []
  | .bl i :: vs => (boolsV vs).map (i :: ·)
  | _ => none
theorem boolsV_map (is : List Bool) : boolsV (is.map .bl) = some is := by
  induction is with
  | nil => rfl
  | cons i is ih => simp [boolsV, ih]
theorem boolsV_rp {K : PySem.W.Frag} {H : Hp} {A : AP} : ∀ {vs : List Val} {xs : List V} {is : List Bool}, boolsV vs = some is → RpL K H A vs xs → xs = is.map V.bl
  | [], xs, is, e, l => by rw [rpl_nil] at l; subst l; cases e; rfl
  | v :: vs, xs, is, e, l => by
    rw [rpl_cons] at l
    obtain ⟨x, r, rfl, h1, h2⟩ := l
    cases v <;> try (cases e; done)
    rename_i i
    change (boolsV vs).map (i :: ·) = some is at e
    cases q : boolsV vs with
    | none => rw [q] at e; cases e
    | some js =>
      rw [q] at e; cases e
      rw [rp_bl] at h1; subst h1
      rw [boolsV_rp q h2]; rfl
def oAll : Val → Res (Val × Bool)
  | .lst vs => match boolsV vs with
    | some is => .ok (.bl (is.all id), false)
    | none => .bad
  | _ => .bad
def oAny : Val → Res (Val × Bool)
  | .lst vs => match boolsV vs with
    | some is => .ok (.bl (is.any id), false)
    | none => .bad
  | _ => .bad
section
variable {K : PySem.W.Frag}
theorem s_all : OpSLR K (rAll K) oAll := by
  intro H A v x al hv
  cases v <;> try exact bad_ans
  case lst vs =>
    obtain ⟨a, xs, rfl, ha, l, _⟩ := hv
    show Ans _ _ _ _ (match boolsV vs with | some is => _ | none => _)
    cases e : boolsV vs with
    | none => exact bad_ans
    | some is => exact ans_pure _ (fun _ => rp_bl.mpr rfl) fun Q q => ⟨a, is, rfl, by rw [← boolsV_rp e l]; exact SqL.of ha, q⟩
theorem s_any : OpSLR K (rAny K) oAny := by
  intro H A v x al hv
  cases v <;> try exact bad_ans
  case lst vs =>
    obtain ⟨a, xs, rfl, ha, l, _⟩ := hv
    show Ans _ _ _ _ (match boolsV vs with | some is => _ | none => _)
    cases e : boolsV vs with
    | none => exact bad_ans
    | some is => exact ans_pure _ (fun _ => rp_bl.mpr rfl) fun Q q => ⟨a, is, rfl, by rw [← boolsV_rp e l]; exact SqL.of ha, q⟩
def oList : Val → Res (Val × Bool)
  | .lst vs => .ok (.lst vs, true)
  | .tup vs => .ok (.lst vs, true)
  | .rng i j => if rgOk i && rgOk j && decide ((j - i).toNat ≤ 1000000) then .ok (.lst (upto i (j - i).toNat), true) else .bad
  | .str z => if z.length ≤ sizeLine then .ok (.lst (z.cps.toList.map fun c => Val.str ⟨#[c]⟩), true) else .bad
  | _ => .bad
theorem vals_items {P : Nat → Value → Prop} {acc : Array Value} {n : Nat} {xs : List V} (h : ItemsOf P acc n) (hl : xs.length = n) (hp : ∀ i x v, xs[i]? = some x → P i v → RelV x v) : Vals xs acc.toList := by
  have go : ∀ (xs : List V) (us : List Value), xs.length = us.length → (∀ (i : Nat) x v, xs[i]? = some x → us[i]? = some v → RelV x v) → Vals xs us := fun xs => by
    induction xs with
    | nil => intro us e _; cases us with
      | nil => exact .nil
      | cons _ _ => simp at e
    | cons x xs ih => intro us e k; cases us with
      | nil => simp at e
      | cons u us => exact .cons (k 0 x u rfl rfl) (ih us (by simpa using e) fun i y v e1 e2 => k (i + 1) y v (by simpa using e1) (by simpa using e2))
  exact go xs acc.toList (hl.trans (h.1.symm.trans (Array.length_toList (xs := acc)).symm)) fun i x v e1 e2 => hp i x v e1 (h.2 i v (by rw [← Array.getElem?_toList]; exact e2))
def uptoV (lo : Int) (n : Nat) : List V := (List.range n).map fun (i : Nat) => V.int (lo + (i : Int))
theorem upto_rp {H : Hp} {A : AP} (lo : Int) (n : Nat) : RpL K H A (upto lo n) (uptoV lo n) := by
  unfold upto uptoV
  induction List.range n with
  | nil => exact RpL.nil
  | cons i l ih => exact rpl_cc.mpr ⟨rp_int.mpr rfl, ih⟩
def rListV (K : PySem.W.Frag) : List V → Hp → VK → Prop := fun xs H Q => (∃ p ys, xs = [.ref p] ∧ (SqL K H p ys ∨ SqT K H p ys) ∧ ∀ l, H l = none → Q (.ref l) (upd H l (.lst ys))) ∨
  (∃ (p : Addr) (i j : Int), xs = [.ref p] ∧ H p = some (.rng i j) ∧ (-(2 ^ 62) ≤ i ∧ i < 2 ^ 62) ∧ (-(2 ^ 62) ≤ j ∧ j < 2 ^ 62) ∧ (j - i).toNat ≤ 1000000 ∧ ∀ l, H l = none → Q (.ref l) (upd H l (.lst (uptoV i (j - i).toNat)))) ∨
  ∃ z : Str, xs = [.str z] ∧ z.length ≤ sizeLine ∧ ∀ l, H l = none → Q (.ref l) (upd H l (.lst (z.cps.toList.map fun c => V.str ⟨#[c]⟩)))
theorem call_listV {X : Cx} (hc : X.calm = true) : CallR X (.type "list") (rListV X.K) := by
  intro pins s σ H xs us Q I r h
  rcases h with h | ⟨p, i, j, rfl, hr, hi, hj, hn, q⟩ | ⟨z, rfl, hz, q⟩
  · exact L2.call_list_of pins s σ H xs us Q I r h
  · rw [Vals.ref1 r]
    obtain ⟨t, u, v, e⟩ := I.hok p _ hr
    have e2 : Builtin.Range.rangeSize i j 1 = (j - i).toNat := by rw [rangeSize_one]; split <;> omega
    refine call_list_range (n := (j - i).toNat) (I.ok.hd hc) (show IsRange s.heap p i j 1 t u v from e) (small_one hi.1 hi.2 hj.1 hj.2) e2 (by omega) fun h' tk acc c kp hS it => ?_
    have rv : Vals (uptoV i (j - i).toNat) acc.toList := vals_items it (by simp [uptoV]) fun k x w ex ew => by
      obtain ⟨t, rfl⟩ := ew
      unfold uptoV at ex
      rw [List.getElem?_map] at ex
      cases q : (List.range (j - i).toNat)[k]? with
      | none => rw [q] at ex; cases ex
      | some m =>
        rw [q] at ex; cases ex
        have := List.getElem?_eq_some_iff.mp q
        obtain ⟨hk, em⟩ := this
        rw [List.getElem_range] at em
        subst em
        exact ⟨t, by rw [Int.mul_one]⟩
    exact ⟨.ref _, _, I.laid (t' := tk) (o := .lst (uptoV i (j - i).toNat)) kp (Nat.le_refl _) ⟨by simp [uptoV]; rw [sizeLine_eq]; omega, acc.toList, c, rv, by rw [Array.toArray_toList]; exact hS⟩, rfl, q _ (I.hok.fresh (Nat.le_refl _))⟩
  · obtain ⟨u, rfl, ru⟩ := L2.vals1 r
    obtain ⟨t, rfl⟩ := ru
    refine call_list_str (I.ok.hd hc) z t (fun h' tk acc c kp hS it => ?_) hz
    have rv : Vals (z.cps.toList.map fun c => V.str ⟨#[c]⟩) acc.toList := vals_items it (by simp) fun k x w ex ew => by
      obtain ⟨c', t', ec, rfl⟩ := ew
      rw [List.getElem?_map] at ex
      have : z.cps.toList[k]? = some c' := by simpa using ec
      rw [this] at ex; cases ex
      exact ⟨t', rfl⟩
    exact ⟨.ref _, _, I.laid (t' := tk) (o := .lst _) kp (Nat.le_refl _) ⟨by rw [List.length_map, Array.length_toList]; exact hz, acc.toList, c, rv, by rw [Array.toArray_toList]; exact hS⟩, rfl, q _ (I.hok.fresh (Nat.le_refl _))⟩
theorem s_list : OpSLR K (rListV K) oList := by
  intro H A v x al hv
  cases v <;> try exact bad_ans
  case tup vs =>
    have hv : Rp K H A (.tup vs) x := hv
    rw [rp_tup] at hv
    obtain ⟨a, xs, rfl, _, ha, l, z⟩ := hv
    exact fun Q q => .inl ⟨a, xs, rfl, .inr (SqT.of ha), fun p hp => q _ _ (same_upd hp) (new_lst hp l z)⟩
  case lst vs =>
    obtain ⟨a, xs, rfl, ha, l, z⟩ := hv
    exact fun Q q => .inl ⟨a, xs, rfl, .inl (SqL.of ha), fun p hp => q _ _ (same_upd hp) (new_lst hp l z)⟩
  case rng i j =>
    have hv : Rp K H A (.rng i j) x := hv
    rw [rp_rng] at hv
    obtain ⟨a, rfl, _, ha⟩ := hv
    show Ans _ _ _ _ (if rgOk i && rgOk j && decide ((j - i).toNat ≤ 1000000) then _ else _)
    split
    · rename_i h
      rw [Bool.and_eq_true, Bool.and_eq_true] at h
      have hn := of_decide_eq_true h.2
      exact fun Q q => .inr (.inl ⟨a, i, j, rfl, ha, rgOk_iff h.1.1, rgOk_iff h.1.2, hn, fun p hp => q _ _ (same_upd hp) (new_lst hp (upto_rp i _) (by rw [upto_len, sizeLine_eq]; omega))⟩)
    · exact bad_ans
  case str z =>
    have hv : Rp K H A (.str z) x := hv
    rw [rp_str] at hv; subst hv
    show Ans _ _ _ _ (if z.length ≤ sizeLine then _ else _)
    split
    · rename_i hz
      have lr : RpL K H A (z.cps.toList.map fun c => Val.str ⟨#[c]⟩) (z.cps.toList.map fun c => V.str ⟨#[c]⟩) := by
        induction z.cps.toList with
        | nil => exact RpL.nil
        | cons c l ih => exact rpl_cc.mpr ⟨rp_str.mpr rfl, ih⟩
      exact fun Q q => .inr (.inr ⟨z, rfl, hz, fun p hp => q _ _ (same_upd hp) (new_lst hp lr (by rw [List.length_map, Array.length_toList]; exact hz))⟩)
    · exact bad_ans
def oTuple : Val → Res (Val × Bool)
  | .lst vs => .ok (.tup vs, false)
  | .tup vs => .ok (.tup vs, false)
  | _ => .bad
def rTupleV (K : PySem.W.Frag) : List V → Hp → VK → Prop := fun xs H Q => ∃ p ys, xs = [.ref p] ∧ ((SqL K H p ys ∧ ∀ l, H l = none → Q (.ref l) (upd H l (.tup ys))) ∨ (SqT K H p ys ∧ Q (.ref p) H))
theorem s_tuple : OpSLR K (rTupleV K) oTuple := by
  intro H A v x al hv
  cases v <;> try exact bad_ans
  case tup vs =>
    have hv : Rp K H A (.tup vs) x := hv
    have hv' := hv
    rw [rp_tup] at hv
    obtain ⟨a, xs, rfl, _, ha, l, z⟩ := hv
    exact ans_read hv' fun Q q => ⟨a, xs, rfl, .inr ⟨SqT.of ha, q⟩⟩
  case lst vs =>
    obtain ⟨a, xs, rfl, ha, l, z⟩ := hv
    exact fun Q q => ⟨a, xs, rfl, .inl ⟨SqL.of ha, fun p hp => q _ _ (same_upd hp) (new_tup al hp l z)⟩⟩
def oInt : Val → Res (Val × Bool)
  | .int i => .ok (.int i, false)
  | .bl k => .ok (.int (if k then 1 else 0), false)
  | _ => .bad
def rIntV : List V → Hp → VK → Prop := fun xs H Q => (∃ i, xs = [.int i] ∧ Q (.int i) H) ∨ ∃ k, xs = [.bl k] ∧ Q (.int (if k then 1 else 0)) H
theorem s_int : OpSLR K rIntV oInt := by
  intro H A v x al hv
  cases v <;> try exact bad_ans
  case int i => have hv : Rp K H A (.int i) x := hv; rw [rp_int] at hv; subst hv; exact ans_pure _ (fun _ => rp_int.mpr rfl) fun Q q => .inl ⟨i, rfl, q⟩
  case bl i => have hv : Rp K H A (.bl i) x := hv; rw [rp_bl] at hv; subst hv; exact ans_pure _ (fun _ => rp_int.mpr rfl) fun Q q => .inr ⟨i, rfl, q⟩
def oAbs : Val → Res (Val × Bool)
  | .int i => .ok (.int (if i < 0 then -i else i), false)
  | _ => .bad
def rAbsV : List V → Hp → VK → Prop := fun xs H Q => ∃ i, xs = [.int i] ∧ Q (.int (if i < 0 then -i else i)) H
theorem s_abs : OpSLR K rAbsV oAbs := by
  intro H A v x al hv
  cases v <;> try exact bad_ans
  case int i => have hv : Rp K H A (.int i) x := hv; rw [rp_int] at hv; subst hv; exact ans_pure _ (fun _ => rp_int.mpr rfl) fun Q q => ⟨i, rfl, q⟩
/-- two plain arguments -/
theorem opl2 {r : List V → Hp → VK → Prop} {f : Val → Val → Res (Val × Bool)} (h : ∀ H A v w x y, (∀ a, A a → H a ≠ none) → Rp K H A v x → Rp K H A w y → Ans K H A (r [x, y]) (f v w)) : OpSL K r (on2 f) := fun H A vs xs al l => by
  match vs with
  | [] => exact bad_ans
  | [v] => exact bad_ans
  | [v, w] =>
    rw [rpl_cons] at l; obtain ⟨x, r, rfl, h1, l⟩ := l
    rw [rpl_cons] at l; obtain ⟨y, r, rfl, h2, l⟩ := l
    rw [rpl_nil] at l; subst l
    exact h H A v w x y al h1 h2
  | _ :: _ :: _ :: _ => exact bad_ans
def oMax2 : Val → Val → Res (Val × Bool)
  | .int i, .int j => .ok (.int (if j > i then j else i), false)
  | _, _ => .bad
def oMin2 : Val → Val → Res (Val × Bool)
  | .int i, .int j => .ok (.int (if j < i then j else i), false)
  | _, _ => .bad
def rMax2 : List V → Hp → VK → Prop := fun xs H Q => ∃ i j, xs = [.int i, .int j] ∧ Q (.int (if j > i then j else i)) H
def rMin2 : List V → Hp → VK → Prop := fun xs H Q => ∃ i j, xs = [.int i, .int j] ∧ Q (.int (if j < i then j else i)) H
theorem s_max2 : OpSL K rMax2 (on2 oMax2) := opl2 fun H A v w x y al h1 h2 => by
  cases v <;> cases w <;> try exact bad_ans
  case int.int i j => rw [rp_int] at h1 h2; subst h1 h2; exact ans_pure _ (fun _ => rp_int.mpr rfl) fun Q q => ⟨i, j, rfl, q⟩
theorem s_min2 : OpSL K rMin2 (on2 oMin2) := opl2 fun H A v w x y al h1 h2 => by
  cases v <;> cases w <;> try exact bad_ans
  case int.int i j => rw [rp_int] at h1 h2; subst h1 h2; exact ans_pure _ (fun _ => rp_int.mpr rfl) fun Q q => ⟨i, j, rfl, q⟩

/-! isinstance -/
inductive Tg where | non | bl | int | str | tup | lst | dct
def tagV : Val → Option Tg
  | .non => some .non
  | .bl _ => some .bl
  | .int _ => some .int
  | .str _ => some .str
  | .tup _ => some .tup
  | .lst _ => some .lst
  | .scr _ => some .lst
  | .dK _ => some .dct
  | .dT _ => some .dct
  | _ => none
def Tg.name : Tg → String
  | .non => "NoneType" | .bl => "bool" | .int => "int" | .str => "str" | .tup => "tuple" | .lst => "list" | .dct => "dict"
def tgIs : Tg → String → Option Bool
  | t, "int" => some (match t with | .int => true | .bl => true | _ => false)
  | t, "bool" => some (match t with | .bl => true | _ => false)
  | t, "str" => some (match t with | .str => true | _ => false)
  | t, "tuple" => some (match t with | .tup => true | _ => false)
  | t, "list" => some (match t with | .lst => true | _ => false)
  | t, "dict" => some (match t with | .dct => true | _ => false)
  | _, _ => none
theorem tgIs_kit {t : Tg} {n : String} {b : Bool} (h : tgIs t n = some b) : kitB t.name n = some b := by
  unfold tgIs at h
  split at h <;> first
    | (cases h; done)
    | (cases t <;> cases h <;> decide +kernel)
theorem tag_ty {H : Hp} {A : AP} {v : Val} {x : V} {t : Tg} (h : tagV v = some t) (r : RdR K H A v x) : TyX K H x (.type t.name) := by
  cases v <;> simp only [tagV, reduceCtorEq, Option.some.injEq] at h <;> subst h
  case non => have r : Rp K H A .non x := r; rw [rp_non] at r; subst r; exact .base .non
  case bl b => have r : Rp K H A (.bl b) x := r; rw [rp_bl] at r; subst r; exact .base (.bl b)
  case int b => have r : Rp K H A (.int b) x := r; rw [rp_int] at r; subst r; exact .base (.int b)
  case str b => have r : Rp K H A (.str b) x := r; rw [rp_str] at r; subst r; exact .base (.str b)
  case scr is => have r : Rp K H A (.scr is) x := r; rw [rp_scr] at r; obtain ⟨a, rfl, ha⟩ := r; exact ha.elim (fun ⟨_, o, h⟩ => .base (.frz h)) fun ⟨o, its, n, h, c, _⟩ => .kList h c
  case tup vs => have r : Rp K H A (.tup vs) x := r; rw [rp_tup] at r; obtain ⟨a, xs, rfl, _, ha, _⟩ := r; exact .base (.tup ha)
  case lst vs => obtain ⟨a, xs, rfl, ha, _⟩ := r; exact .base (.lst ha)
  case dK vs =>
    obtain ⟨a, xs, rfl, ha, _⟩ := r
    rcases ha with ha | ⟨o, ha⟩
    · exact .base (.dK ha)
    · exact .fDict ha
  case dT vs =>
    obtain ⟨a, xs, rfl, ha, _⟩ := r
    exact .base (.dT ha)
end
end PV

namespace PV
open PySem PySem.Spec PyProof.Rows L2

/-! ### isinstance -/
def oIsi1 (v : Val) (n : String) : Option Bool := (tagV v).bind fun t => tgIs t n
def oIsi2 (v : Val) : Val → Val → Res (Val × Bool)
  | .ty n, .ty m => match oIsi1 v n, oIsi1 v m with
    | some b, some c => .ok (.bl (b || c), false)
    | _, _ => .bad
  | _, _ => .bad
def oIsi (v w : Val) : Res (Val × Bool) := match w with
  | .ty n => (match oIsi1 v n with
    | some b => .ok (.bl b, false)
    | none => .bad)
  | .tup [c1, c2] => oIsi2 v c1 c2
  | _ => .bad
def rIsiV (K : PySem.W.Frag) : List V → Hp → VK → Prop := fun xs H Q => rIsi K xs H Q ∨ rIsiT K xs H Q
theorem call_isiV {X : Cx} : CallR X (.builtin "isinstance") (rIsiV X.K) := call_isi.or call_isiT
theorem oIsi1_ok {v : Val} {n : String} {b : Bool} (h : oIsi1 v n = some b) : ∃ t, tagV v = some t ∧ tgIs t n = some b := by
  unfold oIsi1 at h
  cases e : tagV v with
  | none => rw [e] at h; cases h
  | some t => rw [e] at h; exact ⟨t, rfl, h⟩
theorem s_isi {K : PySem.W.Frag} : OpSL K (rIsiV K) (on2 oIsi) := opl2 fun H A v w x y al h1 h2 => by
  cases w <;> try exact bad_ans
  case ty n =>
    rw [rp_ty] at h2; subst h2
    show Ans _ _ _ _ (match oIsi1 v n with | some b => _ | none => _)
    cases e : oIsi1 v n with
    | none => exact bad_ans
    | some b =>
      obtain ⟨t, e1, e2⟩ := oIsi1_ok e
      exact ans_pure _ (fun _ => rp_bl.mpr rfl) fun Q q => .inl ⟨x, .ty n, _, _, b, rfl, .ty n, tag_ty e1 h1.rdr, kit_ty (tgIs_kit e2), q⟩
  case tup vs =>
    match vs, h2 with
    | [], _ => exact bad_ans
    | [_], _ => exact bad_ans
    | _ :: _ :: _ :: _, _ => exact bad_ans
    | [c1, c2], h2 =>
      show Ans _ _ _ _ (oIsi2 v c1 c2)
      rw [rp_tup] at h2
      obtain ⟨a, xs, rfl, _, ha, l, hz0⟩ := h2
      clear hz0
      rw [rpl_cons] at l; obtain ⟨y1, r1, rfl, l1, l⟩ := l
      rw [rpl_cons] at l; obtain ⟨y2, r2, rfl, l2, l⟩ := l
      rw [rpl_nil] at l; subst l
      cases c1 <;> cases c2 <;> try exact bad_ans
      case ty.ty n m =>
        rw [rp_ty] at l1 l2; subst l1 l2
        show Ans _ _ _ _ (match oIsi1 v n, oIsi1 v m with | some b, some c => _ | _, _ => _)
        cases e2 : oIsi1 v n with
        | none => cases oIsi1 v m <;> exact bad_ans
        | some b =>
          cases e3 : oIsi1 v m with
          | none => exact bad_ans
          | some c =>
            obtain ⟨t, e1, e2⟩ := oIsi1_ok e2
            obtain ⟨t', e1', e3⟩ := oIsi1_ok e3
            rw [e1] at e1'; cases e1'
            refine ans_pure _ (fun _ => rp_bl.mpr rfl) fun Q q => .inr ⟨x, a, _, _, [.type n, .type m], b || c, rfl, ha, .cons (.ty n) (.cons (.ty m) .nil), tag_ty e1 h1.rdr, ?_, q⟩
            refine kitAny_cons (kit_ty (tgIs_kit e2)) (fun hb => ?_) fun hb => by rw [hb]; rfl
            subst hb
            refine kitAny_cons (kit_ty (tgIs_kit e3)) (fun hb => ?_) fun hb => by rw [hb]; rfl
            subst hb
            exact kitAny_nil

/-! ### slices -/
abbrev OD := EnvD → Res (Option Int × EnvD)
def pNone : OD := fun env => .ok (none, env)
def pSome (d : ED) : OD := fun env => d env >>= fun a => match a.1 with
  | .int i => .ok (some i, a.2.2)
  | _ => .bad
def okO (G : Cfg) (σ : L2.St) (Q : Option Int → Hp → Prop) : Option Int × EnvD → AP → Hp → Prop := fun r M H => RelEnv G.K H G.P M σ r.2 → Q r.1 H
def tO (G : Cfg) (d : OD) : TO := fun σ H Q => ∃ M env, RelEnv G.K H G.P M σ env ∧ Post G M H (okO G σ Q) (d env)
def cutD (vs : List Val) (lo hi : Option Int) : List Val := (vs.drop (HT.sIx vs.length 0 lo)).take (HT.sIx vs.length vs.length hi - HT.sIx vs.length 0 lo)
theorem cutD_length (vs : List Val) (lo hi : Option Int) : (cutD vs lo hi).length ≤ vs.length := by
  unfold cutD
  rw [List.length_take, List.length_drop]
  omega
theorem RpL.cut {K : PySem.W.Frag} {H : Hp} {A : AP} {vs : List Val} {xs : List V} (l : RpL K H A vs xs) (lo hi : Option Int) : RpL K H A (cutD vs lo hi) (cutV xs lo hi) := by
  unfold cutD cutV
  rw [l.length]
  exact (l.drop _).take _
def oSl : Val → Option Int → Option Int → Res (Val × Bool)
  | .lst vs, lo, hi => .ok (.lst (cutD vs lo hi), true)
  | .tup vs, lo, hi => .ok (.tup (cutD vs lo hi), false)
  | .scr is, lo, hi => if is.length ≤ sizeLine then .ok (.lst (cutD (is.map .int) lo hi), true) else .bad
  | .str s, lo, hi => if s.length ≤ sizeLine then .ok (.str (cutS s lo hi), false) else .bad
  | _, _, _ => .bad
def rSlV (K : PySem.W.Frag) : V → Option Int → Option Int → Hp → VK → Prop := fun x lo hi H Q => rSlL K x lo hi H Q ∨ rSlA K x lo hi H Q ∨ rSlS x lo hi H Q
theorem sl_V {X : Cx} : SlR X (rSlV X.K) := sl_list.or (sl_tupA.or sl_str)
theorem cut_whole {vs : List Val} {lo hi : Option Int} (h : HT.sIx vs.length 0 lo = 0 ∧ HT.sIx vs.length vs.length hi = vs.length) : cutD vs lo hi = vs := by
  unfold cutD
  rw [h.1, h.2]; simp
theorem s_sl {K : PySem.W.Frag} {H : Hp} {A : AP} {v : Val} {x : V} {lo hi : Option Int} (al : ∀ a, A a → H a ≠ none) (hv : Rp K H A v x) : Ans K H A (rSlV K x lo hi) (oSl v lo hi) := by
  cases v <;> try exact bad_ans
  case lst vs =>
    rw [rp_lst] at hv
    obtain ⟨a, xs, rfl, _, ha, l, z⟩ := hv
    exact fun Q q => .inl ⟨a, xs, rfl, SqL.of ha, fun p hp => q _ _ (same_upd hp) (new_lst hp (l.cut lo hi) (Nat.le_trans (cutD_length _ _ _) z))⟩
  case tup vs =>
    have hv' := hv
    rw [rp_tup] at hv
    obtain ⟨a, xs, rfl, _, ha, l, z⟩ := hv
    refine fun Q q => .inr (.inl ⟨a, xs, rfl, SqT.of ha, fun w => ?_, fun w p hp => q _ _ (same_upd hp) (new_tup al hp (l.cut lo hi) (Nat.le_trans (cutD_length _ _ _) z))⟩)
    rw [l.length] at w
    exact q _ H (fun _ _ e => e) (by rw [cut_whole w]; exact hv')
  case scr is =>
    rw [rp_scr] at hv
    obtain ⟨a, rfl, ha⟩ := hv
    show Ans _ _ _ _ (if is.length ≤ sizeLine then _ else _)
    split
    · rename_i z
      have l : RpL K H A (is.map .int) (is.map V.int) := by
        clear z ha
        induction is with
        | nil => exact RpL.nil
        | cons i is ih => exact rpl_cc.mpr ⟨rp_int.mpr rfl, ih⟩
      exact fun Q q => .inl ⟨a, _, rfl, ha.sq, fun p hp => q _ _ (same_upd hp) (new_lst hp (l.cut lo hi) (Nat.le_trans (cutD_length _ _ _) (by rw [List.length_map]; exact z)))⟩
    · exact bad_ans
  case str s =>
    rw [rp_str] at hv; subst hv
    show Ans _ _ _ _ (if s.length ≤ sizeLine then _ else _)
    split
    · rename_i z; exact ans_pure _ (fun _ => rp_str.mpr rfl) fun Q q => .inr (.inr ⟨s, rfl, z, q⟩)
    · exact bad_ans
def dSl (da : ED) (lo hi : OD) : ED := fun env => da env >>= fun a => lo a.2.2 >>= fun l => hi l.2 >>= fun h => oSl a.1 l.1 h.1 >>= fun z => .ok (z.1, z.2, h.2)
section
variable {X : Cx} {G : Cfg} {e : Expr} {lo hi : Option Expr} {d : ED} {dl dh : OD} {pos p2 : Pos}
theorem _root_.L2.PO.pv {X : Cx} {e : Option Expr} {t t' : TO} (h : PO X e t) (w : ∀ σ H Q, t' σ H Q → t σ H Q) : PO X e t' := ⟨fun pins s σ H Q I q => h.run pins s σ H Q I (w σ H Q q)⟩
theorem so_none : PO X none (tO G pNone) := po_none.pv fun σ H Q ⟨M, env, R, p⟩ => p M H .refl R
theorem so_some (he : PE X e (tE G d)) : PO X (some e) (tO G (pSome d)) := (po_some he).pv fun σ H Q ⟨M, env, R, p⟩ => by
  refine Post.bindF R p fun v o e1 x M1 H1 x1 R1 r1 p1 => ?_
  cases v <;> try exact p1.elim
  rename_i i
  rw [rp_int] at r1; subst r1
  exact ⟨i, rfl, p1 M1 H1 .refl R1⟩
theorem Post.bindO {α : Type} {M : AP} {H : Hp} {σ : L2.St} {env : EnvD} {ok : α → AP → Hp → Prop} {f : Option Int × EnvD → Res α} {d : OD} {B : Option Int → Hp → Prop} (R : RelEnv G.K H G.P M σ env) (h : Post G M H ok (d env >>= f))
    (k : ∀ b env' M' H', Ext M H M' H' → RelEnv G.K H' G.P M' σ env' → Post G M' H' ok (f (b, env')) → B b H') : tO G d σ H B := by
  refine ⟨M, env, R, ?_⟩
  cases q : d env with
  | ok a =>
    obtain ⟨b, env'⟩ := a
    rw [q] at h
    exact fun M' H' e R' => k b env' M' H' e R' (Post.mono (r := f (b, env')) h e)
  | exc c p => rw [q] at h; exact h
  | bad => rw [q] at h; exact h
theorem se_sl (hK : X.K = G.K) (he : PE X e (tE G d)) (hl : PO X lo (tO G dl)) (hh : PO X hi (tO G dh)) : PE X (.Subscript e (.Slice lo hi none p2) pos) (tE G (dSl d dl dh)) := (pe_slice sl_V he hl hh).pv fun σ H Q ⟨M, env, R, p⟩ => by
  refine Post.bindF R p fun v o e1 x M1 H1 x1 R1 r1 p1 => ?_
  refine Post.bindO R1 p1 fun l e2 M2 H2 x2 R2 p2 => ?_
  refine Post.bindO R2 p2 fun h e3 M3 H3 x3 R3 p3 => ?_
  rw [hK]
  exact fin_ans R3 (s_sl R3.al (Rp.stay ((x2.trans x3).stay R1.pal) _ _ r1)) p3
end

/-! ### enumerate, zip of lists, tuples, texts -/
/-- what is walked: a list, a tuple, a text -/
inductive SK where | l (a : Addr) | t (a : Addr) | s (z : Str)
def SK.v : SK → V
  | .l a => .ref a
  | .t a => .ref a
  | .s z => .str z
def signsV (z : Str) : List V := z.cps.toList.map fun c => V.str ⟨#[c]⟩
def SqK (k : SK) (H : Hp) (xs : List V) : Prop := match k with
  | .l a => H a = some (.lst xs)
  | .t a => H a = some (.tup xs)
  | .s z => xs = signsV z ∧ z.length ≤ sizeLine
def IterK (k : SK) (t : Tok) (h : Heap) (it : Addr) (i : Nat) : Prop := match k with
  | .l a => h.IsListIter it a i
  | .t a => h.IsTupleIter it a i
  | .s z => h.IsStrIter it (strIterType z) z t i
def IsSeqK (k : SK) (h : Heap) (its : Array Value) : Prop := match k with
  | .l a => h.IsList a its
  | .t a => h.IsTuple a its
  | .s z => its.size = z.cps.size
def PK (k : SK) (its : Array Value) (i : Nat) (v : Value) : Prop := match k with
  | .l _ => its[i]? = some v
  | .t _ => its[i]? = some v
  | .s z => ∃ c u, z.cps[i]? = some c ∧ v = .str ⟨#[c]⟩ u
/-- the cell that is walked, where there is one -/
def baseK : SK → List Addr
  | .l a => [a]
  | .t a => [a]
  | .s _ => []
def fpK (k : SK) (it : Addr) : List Addr := it :: baseK k
section
variable {X : Cx} {pins : List (Addr × Obj)} {σ : L2.St} {H : Hp} {s : Shared} {it : Addr} {k : SK} {t : Tok} {xs ys : List V} {i : Nat} {h h' : Heap}
theorem seqK (I : L2.Inv X pins σ H s) (hq : SqK k H xs) : ∃ its : Array Value, (∀ i x v, xs[i]? = some x → PK k its i v → RelV x v) ∧ xs.length = its.size ∧ IsSeqK k s.heap its ∧ xs.length ≤ sizeLine := by
  have go : ∀ {its : List Value}, Vals xs its → ∀ i x v, xs[i]? = some x → its.toArray[i]? = some v → RelV x v := fun {its} r i x v hx hv => by
    obtain ⟨u, hu, ru⟩ := r.get hx
    rw [List.getElem?_toArray, hu] at hv; cases hv; exact ru
  cases k with
  | l a => obtain ⟨its, r, p, z⟩ := I.list (SqL.of (K := X.K) hq); exact ⟨its.toArray, go r, by rw [List.size_toArray]; exact r.length, p.isList, z⟩
  | t a => obtain ⟨its, r, p, z⟩ := I.tuple (SqT.of (K := X.K) hq); exact ⟨its.toArray, go r, by rw [List.size_toArray]; exact r.length, p, z⟩
  | s z =>
    obtain ⟨rfl, hz⟩ := hq
    refine ⟨Array.replicate z.cps.size .none, fun i x v hx hv => ?_, by simp [signsV], by simp [IsSeqK], by show (z.cps.toList.map _).length ≤ _; rw [List.length_map, Array.length_toList]; exact hz⟩
    obtain ⟨c, u, hc, rfl⟩ := hv
    unfold signsV at hx
    rw [List.getElem?_map] at hx
    have : z.cps.toList[i]? = some c := by simpa using hc
    rw [this] at hx; cases hx
    exact ⟨u, rfl⟩
theorem seqK_inj (h1 : SqK k H xs) (h2 : SqK k H ys) : xs = ys := by
  cases k with
  | l a => have := h1.symm.trans h2; simp at this; exact this
  | t a => have := h1.symm.trans h2; simp at this; exact this
  | s z => rw [h1.1, h2.1]
theorem SqK.ne {c : Addr} (h1 : SqK k H xs) (hn : H c = none) : c ∉ baseK k := by
  cases k <;> simp only [baseK, List.mem_singleton, List.not_mem_nil, not_false_eq_true]
  all_goals
    intro z
    rw [z] at hn
    exact absurd (hn.symm.trans h1) (by simp)
theorem IterK.at (x : IterK k t h it i) (q : ∀ o, h.get? it = some o → h'.get? it = some o) : IterK k t h' it i := by
  cases k with
  | l a => exact Heap.IsListIter.at x q
  | t a => exact Heap.IsTupleIter.at x q
  | s z => obtain ⟨o, ho, r⟩ := x; exact ⟨o, q o ho, r⟩
theorem IterK.obj (x : IterK k t h it i) : ∃ o, h.get? it = some o ∧ ∀ v, o.data ≠ .cell v := by
  cases k with
  | l a => obtain ⟨o, ho, hc, hd⟩ := x; exact ⟨o, ho, fun v q => by rw [hd] at q; cases q⟩
  | t a => obtain ⟨o, ho, hc, hd⟩ := x; exact ⟨o, ho, fun v q => by rw [hd] at q; cases q⟩
  | s z => obtain ⟨o, ho, hc, hd⟩ := x; exact ⟨o, ho, fun v q => by rw [hd] at q; cases q⟩
theorem IsSeqK.lt {its : Array Value} (x : IsSeqK k h its) : ∀ c ∈ baseK k, c < h.objs.size := by
  cases k <;> intro c hc <;> simp only [baseK, List.mem_singleton, List.not_mem_nil] at hc
  all_goals
    have ⟨_, e, _⟩ := x
    exact hc ▸ Heap.lt_size e
theorem IsSeqK.at {its : Array Value} (x : IsSeqK k h its) {S : Addr} (hS : S ∉ baseK k) (q : ∀ c o, c ≠ S → h.get? c = some o → h'.get? c = some o) : IsSeqK k h' its := by
  cases k with
  | l a => exact Heap.IsList.at x fun o e => q _ o (fun z => hS (by simp [baseK, z])) e
  | t a => exact Heap.IsTuple.at x fun o e => q _ o (fun z => hS (by simp [baseK, z])) e
  | s z => exact x
theorem IsSeqK.keep {its : Array Value} (x : IsSeqK k h its) (q : ∀ c o, h.get? c = some o → h'.get? c = some o) : IsSeqK k h' its := by
  cases k with
  | l a => exact Heap.IsList.at x fun o e => q _ o e
  | t a => exact Heap.IsTuple.at x fun o e => q _ o e
  | s z => exact x
theorem drawsK {prog : Program} {w : World} {A : Around} (hh : A.handled = none) (it : Addr) (hne : it ∉ baseK k) (its : Array Value) :
    Draws prog w A it (fpK k it) its.size (PK k its) (fun i h => IterK k t h it i ∧ IsSeqK k h its) := by
  cases k with
  | l a => exact Draws.list hh it a (fun z => hne (by simp [baseK, z])) its
  | t a => exact Draws.tuple hh it a (fun z => hne (by simp [baseK, z])) its
  | s z =>
    have D := Draws.text (prog := prog) (w := w) hh it z t
    exact {
      live := fun i h st => D.live i h st.1
      frame := fun i h h' st q => ⟨D.frame i h h' st.1 q, st.2⟩
      item := fun i s Q E hi st hQ => D.item i s Q E (by rw [← (show its.size = z.cps.size from st.2)]; exact hi) st.1 fun x h' tk e1 e2 e3 => hQ x h' tk e1 ⟨e2, st.2⟩ e3
      done := fun s Q E st hE => D.done s Q E (by rw [← (show its.size = z.cps.size from st.2)]; exact st.1) hE }
end
/-! Iterators of pairs, from what the library tells of their walks (GoesN). -/
/-- the pairs ps, one new tuple a turn; S tells them from the heap -/
def pairIt (S : Hp → List (V × V) → Prop) : It where
  go i H := ∃ ps, S H ps ∧ i < ps.length
  yld i H v H' := ∃ (T : Addr) (p : V × V), v = .ref T ∧ H T = none ∧ H' = upd H T (.tup [p.1, p.2]) ∧ ∀ ps, S H ps → ps[i]? = some p
  stop i H := ∃ ps, S H ps ∧ ps.length = i
/-- what a walk owes for it -/
def PairWalk (X : Cx) (tg : Expr) (e : Addr) (fp : List Addr) (tn : Nat → Heap → Prop) (s : Shared) (ps : List (V × V)) : Prop :=
  ∃ (fp' wr : List Addr) (Y : Nat → Heap → Value → Heap → Prop) (St : Nat → Heap → Prop), GoesN X.prog X.w X.A tg e fp' wr ps.length Y St ∧ (∀ c ∈ wr, c ∈ fp) ∧ (∀ i, tn i s.heap → St i s.heap) ∧ (∀ i h, St i h → tn i h) ∧
    ∀ i p h0 v h, ps[i]? = some p → Y i h0 v h → ∃ T x y, v = .ref T ∧ h0.objs.size ≤ T ∧ RelV p.1 x ∧ RelV p.2 y ∧ h.IsTuple T #[x, y]
theorem turnPairs {P : Program} {w : World} {K : PySem.W.Frag} {tg : Expr} {S : Hp → List (V × V) → Prop} {fp : List Addr} {e : Addr} {tn : Nat → Heap → Prop} (inj : ∀ H ps qs, S H ps → S H qs → ps = qs) (mem : e ∈ fp)
    (obj : ∀ i h, tn i h → ∀ c ∈ fp, ∃ o, h.get? c = some o ∧ ∀ v, o.data ≠ .cell v)
    (keep : ∀ i h h', tn i h → (∀ c ∈ fp, ∀ o, h.get? c = some o → h'.get? c = some o) → tn i h')
    (self : ∀ (A : Around) (i : Nat) (s : Shared) (Q : Value → Shared → Prop) (E : Value → Shared → Prop), tn i s.heap → Q (.ref e) s → wpAny (model P w) A (pyIter (.ref e)) Q E s)
    (walk : ∀ (X : Cx), X.prog = P → X.w = w → X.K = K → X.calm = true → ∀ pins σ H s ps, L2.Inv X pins σ H s → (∀ c ∈ fp, FpOk X pins H c) → S H ps → PairWalk X tg e fp tn s ps) :
    Turn P w K tg (pairIt S) fp e tn := by
  refine ⟨mem, obj, keep, ?_, ?_, self⟩
  · rintro X rfl rfl rfl hc i pins s σ H E I hf st ⟨ps, hS, hi⟩
    obtain ⟨fp', wr, Y, St, W, sub, to, fro, tells⟩ := walk X rfl rfl rfl hc pins σ H s ps I hf hS
    refine W.goes i s _ E hi (to i st) fun v h' tk hY st' hk _ => ?_
    obtain ⟨T, x, y, rfl, hT, rx, ry, isT⟩ := tells i ps[i] s.heap v h' (List.getElem?_eq_getElem hi) hY
    refine ⟨.ref T, _, I.turnedNew (ob := .tup [ps[i].1, ps[i].2]) hk (fun c z => hf c (sub c z)) hT ⟨?_, [x, y], .cons rx (.cons ry .nil), isT⟩, rfl, ⟨T, ps[i], rfl, I.hok.fresh hT, rfl, fun qs hq => ?_⟩, fro _ _ st', fun c z => ?_⟩
    · show 2 ≤ sizeLine
      decide
    · rw [inj H qs ps hq hS]
      exact List.getElem?_eq_getElem hi
    · obtain ⟨o, ho, _⟩ := obj i _ st c z
      rw [upd_ne (Nat.ne_of_lt (Nat.lt_of_lt_of_le (Heap.lt_size ho) hT))]
      exact (hf c z).1
  · rintro X rfl rfl rfl hc i pins s σ H E I hf st ⟨ps, hS, rfl⟩
    obtain ⟨fp', wr, Y, St, W, sub, to, fro, tells⟩ := walk X rfl rfl rfl hc pins σ H s ps I hf hS
    exact W.stops s _ E (to _ st) fun h' tk hk _ => I.turnedL hk fun c z => hf c (sub c z)
def enumS (k : SK) (H : Hp) (ps : List (V × V)) : Prop := ∃ xs, SqK k H xs ∧ ps = xs.mapIdx fun i x => (.int i, x)
def zipS (k1 k2 : SK) (H : Hp) (ps : List (V × V)) : Prop := ∃ xs ys, SqK k1 H xs ∧ SqK k2 H ys ∧ ps = xs.zip ys
def EnumAt (k : SK) (t : Tok) (e it : Addr) (i : Nat) (h : Heap) : Prop := (∃ old, IsEnum h e it (0 + (i : Int)) old) ∧ IterK k t h it i
theorem turnEnum {P : Program} {w : World} {K : PySem.W.Frag} {elts : List Expr} {kk : Nat} {tpos : Pos} {k : SK} {t : Tok} {e it : Addr} (hne : e ≠ it) (hb : it ∉ baseK k) (hbe : e ∉ baseK k) :
    Turn P w K (.Tuple elts kk tpos) (pairIt (enumS k)) [e, it] e (EnumAt k t e it) := by
  refine turnPairs ?_ (by simp) ?_ ?_ ?_ ?_
  · rintro H ps qs ⟨xs, a, rfl⟩ ⟨ys, b, rfl⟩
    rw [seqK_inj a b]
  · rintro i h ⟨⟨old, he⟩, hi⟩ c hc
    rcases List.mem_cons.mp hc with rfl | hc
    · exact ⟨_, he, fun _ q => nomatch q⟩
    · rw [List.mem_singleton.mp hc]; exact hi.obj
  · rintro i h h' ⟨⟨old, he⟩, hi⟩ q
    exact ⟨⟨old, q e (by simp) _ he⟩, hi.at fun o => q it (by simp) o⟩
  · rintro A i s Q E ⟨⟨old, he⟩, hi⟩ h
    exact wpAny_pyIter_enum he h
  · rintro X rfl rfl rfl hc pins σ H s _ I hf ⟨xs, hq, rfl⟩
    obtain ⟨its, rel, le, sq, -⟩ := seqK I hq
    have W := GoesN.enumFrom (elts := elts) (x1 := kk) (pos := tpos) 0 (drawsK (prog := X.prog) (w := X.w) (A := X.A.in1) (t := t) (I.ok.hd hc) it hb its) e hne (fun z => (List.mem_cons.mp z).elim hne hbe) (List.mem_cons_self ..)
    rw [← le, ← List.length_mapIdx (f := fun i x => ((.int i : V), x))] at W
    refine ⟨_, _, _, _, W, fun _ z => z, fun i st => ⟨st.1, st.2, sq⟩, fun i h st => ⟨st.1, st.2.1⟩, ?_⟩
    rintro i p h0 v h ep ⟨T, tk, x, rfl, hT, hx, isT⟩
    rw [List.getElem?_mapIdx] at ep
    obtain ⟨x', ex, rfl⟩ := Option.map_eq_some_iff.mp ep
    exact ⟨T, _, x, rfl, hT, ⟨tk, by simp⟩, rel i x' x ex hx, isT⟩
def ZipAt (k1 k2 : SK) (t1 t2 : Tok) (z TI TO i1 i2 : Addr) (i : Nat) (h : Heap) : Prop :=
  IsZip h z TI TO .none ∧ IsTupOf2 h TI (.ref i1) (.ref i2) ∧ (∃ a1 a2, IsTupOf2 h TO a1 a2) ∧ IterK k1 t1 h i1 i ∧ IterK k2 t2 h i2 i
theorem turnZip {P : Program} {w : World} {K : PySem.W.Frag} {elts : List Expr} {kk : Nat} {tpos : Pos} {k1 k2 : SK} {t1 t2 : Tok} {z TI TO i1 i2 : Addr} (D : ZipSep2 z TI TO i1 i2 (fpK k1 i1) (fpK k2 i2)) (hb1 : i1 ∉ baseK k1) (hb2 : i2 ∉ baseK k2) :
    Turn P w K (.Tuple elts kk tpos) (pairIt (zipS k1 k2)) [z, TI, TO, i1, i2] z (ZipAt k1 k2 t1 t2 z TI TO i1 i2) := by
  refine turnPairs ?_ (by simp) ?_ ?_ ?_ ?_
  · rintro H ps qs ⟨xs, ys, a, b, rfl⟩ ⟨xs', ys', a', b', rfl⟩
    rw [seqK_inj a a', seqK_inj b b']
  · rintro i h ⟨a, b, ⟨_, _, c⟩, d, e⟩ u hu
    simp only [List.mem_cons, List.not_mem_nil, or_false] at hu
    rcases hu with rfl | rfl | rfl | rfl | rfl
    · exact ⟨_, a, fun _ q => nomatch q⟩
    · exact ⟨_, b, fun _ q => nomatch q⟩
    · exact ⟨_, c, fun _ q => nomatch q⟩
    · exact d.obj
    · exact e.obj
  · rintro i h h' ⟨a, b, ⟨_, _, c⟩, d, e⟩ q
    exact ⟨q z (by simp) _ a, q TI (by simp) _ b, ⟨_, _, q TO (by simp) _ c⟩, d.at fun o => q i1 (by simp) o, e.at fun o => q i2 (by simp) o⟩
  · rintro A i s Q E ⟨a, -⟩ h
    exact wpAny_pyIter_zip a h
  · rintro X rfl rfl rfl hc pins σ H s _ I hf ⟨xs, ys, hx, hy, rfl⟩
    obtain ⟨as, rel1, le1, sq1, -⟩ := seqK I hx
    obtain ⟨bs, rel2, le2, sq2, -⟩ := seqK I hy
    have hd := I.ok.hd hc
    have W := GoesN.zip2 (elts := elts) (x1 := kk) (pos := tpos) D (drawsK (prog := X.prog) (w := X.w) (A := X.A.in1) (t := t1) hd i1 hb1 as) (drawsK (prog := X.prog) (w := X.w) (A := X.A.in1) (t := t2) hd i2 hb2 bs)
    rw [← le1, ← le2, ← List.length_zip] at W
    refine ⟨_, _, _, _, W, ?_, fun i st => ⟨st.1, st.2.1, st.2.2.1, ⟨st.2.2.2.1, sq1⟩, st.2.2.2.2, sq2⟩, fun i h st => ⟨st.1, st.2.1, st.2.2.1, st.2.2.2.1.1, st.2.2.2.2.1⟩, ?_⟩
    · intro c hc; revert hc; simp only [List.mem_cons, List.not_mem_nil, or_false]; intro hc; rcases hc with h | h | h | h <;> simp [h]
    · rintro i ⟨p, q⟩ h0 v h ep ⟨T, x, y, rfl, hT, h1, h2, isT⟩
      obtain ⟨e1, e2⟩ := List.getElem?_zip_eq_some.mp ep
      exact ⟨T, x, y, rfl, hT, rel1 i p x e1 h1, rel2 i q y e2 h2, isT⟩
end PV

namespace PySem
open Sem (wp)
/-- whoever asks how the class was called gets one of two answers -/
theorem calledThrough_any {prog : Program} {w : World} {A : Around} {E : Value → Shared → Prop} {s : Shared} {c : Value} {Q : Bool → Shared → Prop} (h : ∀ b, Q b s) : wpAny (model prog w) A (Builtin.SmallTypes.calledThroughType c) Q E s := by
  unfold Builtin.SmallTypes.calledThroughType
  exact wpAny_bind (wpAny_stack_any fun st => wpAny_pure (h _))
/-- enumerate(v) for any v that begins an iterator -/
theorem enum_new1 {v : Value} {o : Obj} {H : Heap → Prop} (B : Begins v o H) : Meets (Builtin.«enumerate.__new__» ⟨[.type "enumerate", v], []⟩) (fun _ R s => H s.heap ∧
    R (.ok (.ret (.ref (s.heap.objs.size + 1)))) { s with heap := (s.heap.push o).push { cls := .type "enumerate", data := .fields #[.none, .bool false, .ref s.heap.objs.size, rawInt 0, .none, .none] } }) := by
  refine .of_wp fun prog w A R s ⟨h1, h⟩ => ?_
  have begin' := fun {A' : Around} {E : Value → Shared → Prop} {Q : Value → Shared → Prop} => B.iter prog w A' E s Q h1
  have sub := sub_enumerate
  wp_walk using calledThrough_any, begin'
  intro b
  have sz : (s.heap.push o).objs.size = s.heap.objs.size + 1 := Heap.size_push ..
  cases b <;> wp_walk using begin'
  all_goals exact ⟨_, rfl, sz ▸ h⟩
theorem enum_begins1 {prog : Program} {w : World} {A : Around} {E : Value → Shared → Prop} {s : Shared} {v : Value} {o : Obj} {H : Heap → Prop} {Q : Value → Shared → Prop} (B : Begins v o H) (h1 : H s.heap)
    (h : ∀ h' e, e = s.heap.objs.size + 1 → IsEnum h' e s.heap.objs.size 0 .none → h'.get? s.heap.objs.size = some o → (∀ b u, s.heap.get? b = some u → h'.get? b = some u) → Q (.ref e) { s with heap := h' }) :
    wpAny (model prog w) A (call (.type "enumerate") [v]) Q E s := by
  let r : Obj := { cls := .type "enumerate", data := .fields #[.none, .bool false, .ref s.heap.objs.size, rawInt 0, .none, .none] }
  have at1 : ((s.heap.push o).push r).get? (s.heap.objs.size + 1) = some r := by
    have := Heap.get?_push_size (s.heap.push o) (o := r) rfl
    rwa [Heap.size_push] at this
  have keep : ∀ b u, s.heap.get? b = some u → ((s.heap.push o).push r).get? b = some u := fun b u q => Heap.get?_push_of_some _ (Heap.get?_push_of_some _ q)
  have at0 : ((s.heap.push o).push r).get? s.heap.objs.size = some o := Heap.get?_push_of_some _ (Heap.get?_push_size _ B.free)
  exact callType_new F.called_enumerate (by decide) (F.typeCall_enumerate_1 _) (F.newCall_enumerate_1 _) (fun obj => F.args_object_init_2 obj _) F.entry_enumerate_new (enum_new1 B) ⟨h1, ⟨r, at1, rfl⟩, h _ _ rfl at1 at0 keep⟩
end PySem
namespace PV
open PySem PySem.Spec PyProof.Rows L2

section
variable {k : SK} {t : Tok} {it : Addr} {h : Heap} {its : Array Value}
def SK.val (k : SK) (t : Tok) : Value := match k with
  | .l a => .ref a
  | .t a => .ref a
  | .s z => .str z t
theorem SK.val_of {k : SK} {u : Value} (r : RelV k.v u) : ∃ t, u = k.val t := by
  cases k with
  | l a => cases r; exact ⟨0, rfl⟩
  | t a => cases r; exact ⟨0, rfl⟩
  | s z => obtain ⟨t, rfl⟩ := r; exact ⟨t, rfl⟩
def iterO (k : SK) (t : Tok) : Obj := match k with
  | .l a => { cls := .type "list_iterator", data := .fields #[.ref a, .int 0 0] }
  | .t a => { cls := .type "tuple_iterator", data := .fields #[.ref a, .int 0 0] }
  | .s z => { cls := .type (strIterType z), data := .fields #[.str z t, .int 0 0] }
theorem beginsK : Begins (k.val t) (iterO k t) fun h => IsSeqK k h its := by
  cases k with
  | l a => exact begins_list a its
  | t a => exact begins_tuple a its
  | s z =>
    have B := begins_text z t
    exact ⟨fun prog w A E s Q _ q => B.iter prog w A E s Q trivial q, fun h h' x _ => x, rfl⟩
theorem iterK_new (e : h.get? it = some (iterO k t)) : IterK k t h it 0 := by
  cases k with
  | l a => exact ⟨_, e, rfl, rfl⟩
  | t a => exact ⟨_, e, rfl, rfl⟩
  | s z => exact ⟨_, e, rfl, rfl⟩
end
/-- a shared list, tuple, a text -/
def signsD (z : Str) : List Val := z.cps.toList.map fun c => Val.str ⟨#[c]⟩
def seqKV : Val → Option (List Val)
  | .lst vs => some vs
  | .tup vs => some vs
  | .str z => if z.length ≤ sizeLine then some (signsD z) else none
  | _ => none
def NaK (A : AP) (k : SK) : Prop := match k with
  | .l a => ¬ A a
  | .t a => ¬ A a
  | .s _ => True
theorem signs_rp {K : PySem.W.Frag} {H : Hp} {A : AP} (z : Str) : RpL K H A (signsD z) (signsV z) := by
  unfold signsD signsV
  induction z.cps.toList with
  | nil => exact RpL.nil
  | cons c l ih => exact rpl_cc.mpr ⟨rp_str.mpr rfl, ih⟩
theorem seqKV_rp {K : PySem.W.Frag} {H : Hp} {A : AP} {v : Val} {x : V} {vs : List Val} (e : seqKV v = some vs) (h : Rp K H A v x) : ∃ (k : SK) (xs : List V), x = k.v ∧ NaK A k ∧ SqK k H xs ∧ RpL K H A vs xs ∧ vs.length ≤ sizeLine := by
  cases v <;> simp only [seqKV, reduceCtorEq, Option.some.injEq] at e
  case lst ws => subst e; rw [rp_lst] at h; obtain ⟨a, xs, rfl, na, ha, l, z⟩ := h; exact ⟨.l a, xs, rfl, na, ha, l, z⟩
  case tup ws => subst e; rw [rp_tup] at h; obtain ⟨a, xs, rfl, na, ha, l, z⟩ := h; exact ⟨.t a, xs, rfl, na, ha, l, z⟩
  case str z =>
    rw [rp_str] at h; subst h
    split at e
    · rename_i hz
      cases e
      exact ⟨.s z, _, rfl, trivial, ⟨rfl, hz⟩, signs_rp z, by unfold signsD; rw [List.length_map, Array.length_toList]; exact hz⟩
    · cases e
theorem SqK.stay {H H' : Hp} {A A' : AP} {k : SK} {xs : List V} (st : Stay H A H' A') (na : NaK A k) (h : SqK k H xs) : SqK k H' xs := by
  cases k with
  | l a => exact (st a _ h na).1
  | t a => exact (st a _ h na).1
  | s z => exact h
def enumD (vs : List Val) : List Val := vs.mapIdx fun i v => .tup [.int i, v]
def zipD (vs ws : List Val) : List Val := List.zipWith (fun v w => .tup [v, w]) vs ws
def enumV : List Val → Option (List Val)
  | [v] => (seqKV v).map enumD
  | _ => none
def zipVs : List Val → Option (List Val)
  | [v, w] => (seqKV v).bind fun q => (seqKV w).map fun r => zipD q r
  | _ => none
def iOf (f : List Val → Option (List Val)) (ds : List ED) : ID := fun env => dList ds env >>= fun r => match f r.1 with
  | some vs => .ok (vs, r.2)
  | none => .bad
section
variable {K : PySem.W.Frag} {H : Hp} {A : AP}
theorem new_pair {p : Addr} {v w : Val} {x y : V} (al : ∀ a, A a → H a ≠ none) (hp : H p = none) (h1 : Rp K H A v x) (h2 : Rp K H A w y) : Rp K (upd H p (.tup [x, y])) A (.tup [v, w]) (.ref p) :=
  new_tup al hp (rpl_cc.mpr ⟨h1, RpL.one h2⟩) (by show 2 ≤ sizeLine; decide)
/-- an iterator of pairs gives the tuples of the values that its pairs stand for -/
theorem itOk_pairs {S : Hp → List (V × V) → Prop} {ps : List (V × V)} {qs : List (Val × Val)} (hS : ∀ H1 A1, Stay H A H1 A1 → S H1 ps) (len : qs.length = ps.length) (rel : ∀ (i : Nat) (q : Val × Val) (p : V × V), qs[i]? = some q → ps[i]? = some p → Rp K H A q.1 p.1 ∧ Rp K H A q.2 p.2) :
    ItOk K H A (pairIt S) (qs.map fun q => .tup [q.1, q.2]) := by
  refine fun i H1 A1 st al => ⟨fun hi => ⟨ps, hS _ _ st, by rw [← len, ← hi, List.length_map]⟩, fun v e => ?_⟩
  rw [List.getElem?_map] at e
  obtain ⟨q, eq, rfl⟩ := Option.map_eq_some_iff.mp e
  have hi : i < ps.length := len ▸ (List.getElem?_eq_some_iff.mp eq).1
  obtain ⟨r1, r2⟩ := rel i q ps[i] eq (List.getElem?_eq_getElem hi)
  refine ⟨⟨ps, hS _ _ st, hi⟩, ?_⟩
  rintro x H2 ⟨T, p, rfl, hT, rfl, z⟩
  obtain rfl : ps[i] = p := by simpa [List.getElem?_eq_getElem hi] using z ps (hS _ _ st)
  exact ⟨same_upd hT, new_pair al hT (Rp.stay st _ _ r1) (Rp.stay st _ _ r2)⟩
theorem itOk_enum {k : SK} {xs : List V} {vs : List Val} (na : NaK A k) (ha : SqK k H xs) (l : RpL K H A vs xs) : ItOk K H A (pairIt (enumS k)) (enumD vs) := by
  have e : enumD vs = (vs.mapIdx fun i v => (Val.int i, v)).map fun q => .tup [q.1, q.2] := by unfold enumD; apply List.ext_getElem? ; intro i; simp only [List.getElem?_map, List.getElem?_mapIdx, Option.map_map]; rfl
  rw [e]
  refine itOk_pairs (fun H1 A1 st => ⟨xs, ha.stay st na, rfl⟩) (by simp [l.length]) fun i q p eq ep => ?_
  rw [List.getElem?_mapIdx] at eq ep
  obtain ⟨v, ev, rfl⟩ := Option.map_eq_some_iff.mp eq
  obtain ⟨x, ex, rfl⟩ := Option.map_eq_some_iff.mp ep
  obtain ⟨x', ex', r⟩ := l.get ev
  rw [ex] at ex'; cases ex'
  exact ⟨rp_int.mpr rfl, r⟩
theorem itOk_zip {k1 k2 : SK} {xs ys : List V} {vs ws : List Val} (na : NaK A k1) (nb : NaK A k2) (ha : SqK k1 H xs) (hb : SqK k2 H ys) (l : RpL K H A vs xs) (l2 : RpL K H A ws ys) : ItOk K H A (pairIt (zipS k1 k2)) (zipD vs ws) := by
  have e : zipD vs ws = (vs.zip ws).map fun q => .tup [q.1, q.2] := by unfold zipD; rw [List.zip, List.map_zipWith]
  rw [e]
  refine itOk_pairs (fun H1 A1 st => ⟨xs, ys, ha.stay st na, hb.stay st nb, rfl⟩) (by simp [l.length, l2.length]) fun i q p eq ep => ?_
  obtain ⟨e1, e2⟩ := List.getElem?_zip_eq_some.mp eq
  obtain ⟨f1, f2⟩ := List.getElem?_zip_eq_some.mp ep
  obtain ⟨x, ex, rx⟩ := l.get e1
  obtain ⟨y, ey, ry⟩ := l2.get e2
  rw [f1] at ex; rw [f2] at ey; cases ex; cases ey
  exact ⟨rx, ry⟩
end
def iEnumK (ta : TA) : TI := fun σ H R => ta σ H fun vs H1 => ∃ (k : SK) (xs : List V), vs = [k.v] ∧ SqK k H1 xs ∧ R (pairIt (enumS k)) H1
def iZipK (ta : TA) : TI := fun σ H R => ta σ H fun vs H1 => ∃ (k1 k2 : SK) (xs ys : List V), vs = [k1.v, k2.v] ∧ SqK k1 H1 xs ∧ SqK k2 H1 ys ∧ R (pairIt (zipS k1 k2)) H1
section
variable {X : Cx} {e e2 : Expr} {ta : TA} {p pos tpos : Pos} {elts : List Expr} {kk : Nat}
theorem fpNew {pins : List (Addr × Obj)} {σ : L2.St} {H : Hp} {s : Shared} (I : L2.Inv X pins σ H s) {c : Addr} (h : s.heap.objs.size ≤ c) : FpOk X pins H c := I.fpOk h (I.hok.fresh h)
theorem valsK1 {x : V} {us : List Value} (h : Vals [x] us) : ∃ u, us = [u] ∧ RelV x u := by
  cases h with
  | cons r t' => cases t'; exact ⟨_, rfl, r⟩
theorem valsK2 {x y : V} {us : List Value} (h : Vals [x, y] us) : ∃ u w, us = [u, w] ∧ RelV x u ∧ RelV y w := by
  cases h with
  | cons r t' =>
    cases t' with
    | cons r2 t2 => cases t2; exact ⟨_, _, rfl, r, r2⟩
theorem pi_enumK (hg : Gl X "enumerate") (hm : X.mg "enumerate" = none) (ha : PA X [e] ta) (hs : starEach [e] X.env = [(false, eval e X.env)]) : PI X (.Tuple elts kk tpos) (.Call (.Name "enumerate" p) [e] [] pos) (iEnumK ta) := by
  constructor
  intro pins s σ H R I h
  refine Call_ (ld_blt I hg hm boot_enumerate (PyProof.Rows.callWith_type1 (thn (ha.run pos pins s σ H _ I h) fun us s1 ⟨vs, H1, I1, r1, k, xs, ex, hq, q⟩ => ?_) hs rfl))
  subst ex
  obtain ⟨u, hu, ru⟩ := valsK1 r1
  subst hu
  obtain ⟨tk, rfl⟩ := SK.val_of ru
  obtain ⟨its, rel, le, sq, hz⟩ := seqK I1 hq
  have old := sq.lt
  refine enum_begins1 (beginsK (k := k) (t := tk) (its := its)) sq fun h' e1 ee he ho hk => wpAny_pyIter_enum he ?_
  have lt1 : s1.heap.objs.size < e1 := ee ▸ Nat.lt_succ_self _
  have out : ∀ c, s1.heap.objs.size ≤ c → c ∉ baseK k := fun c hc hm => absurd (old c hm) (Nat.not_lt.mpr hc)
  refine ⟨e1, _, _, _, H1, rfl, I1.kept (t' := s1.toks) hk, turnEnum (k := k) (t := tk) (Nat.ne_of_gt lt1) (out _ (Nat.le_refl _)) (out _ (Nat.le_of_lt lt1)), ⟨⟨.none, he⟩, iterK_new ho⟩, fun c hc => fpNew I1 ?_, q⟩
  rcases List.mem_cons.mp hc with rfl | hc
  · exact Nat.le_of_lt lt1
  · rw [List.mem_singleton.mp hc]; exact Nat.le_refl _
theorem pi_zipK (hg : Gl X "zip") (hm : X.mg "zip" = none) (ha : PA X [e, e2] ta) (hs : starEach [e, e2] X.env = (false, eval e X.env) :: starEach [e2] X.env) (hpl : (backTo pos (starEach [e2] X.env)).any (·.1) = false) :
    PI X (.Tuple elts kk tpos) (.Call (.Name "zip" p) [e, e2] [] pos) (iZipK ta) := by
  constructor
  intro pins s σ H R I h
  refine Call_ (ld_blt I hg hm PyProof.Rows.boot_zip (PyProof.Rows.callWith_type1 (thn (ha.run pos pins s σ H _ I h) fun us s1 ⟨vs, H1, I1, r1, k1, k2, xs, ys, ex, hqx, hqy, q⟩ => ?_) hs hpl))
  subst ex
  obtain ⟨u, w, hu, ru, rw'⟩ := valsK2 r1
  subst hu
  obtain ⟨tk1, rfl⟩ := SK.val_of ru
  obtain ⟨tk2, rfl⟩ := SK.val_of rw'
  obtain ⟨its, rel, le, sq, hz⟩ := seqK I1 hqx
  obtain ⟨its2, rel2, le2, sq2, hz2⟩ := seqK I1 hqy
  refine zip_begins2 (beginsK (k := k1) (t := tk1) (its := its)) (beginsK (k := k2) (t := tk2) (its := its2)) sq sq2 fun h' z1 z2 z3 z4 z5 hsz hk => wpAny_pyIter_zip z1 ?_
  have old1 := sq.lt
  have old2 := sq2.lt
  have out : ∀ {k : SK} (i : Nat), (∀ c ∈ baseK k, c < s1.heap.objs.size) → s1.heap.objs.size + i ∉ baseK k := fun i old hm => absurd (old _ hm) (Nat.not_lt.mpr (Nat.le_add_right _ _))
  refine ⟨_, _, _, _, H1, rfl, I1.kept (t' := s1.toks) hk, turnZip (zip_sep2 old1 old2) (out 0 old1) (out 1 old2), ⟨z1, z2, ⟨_, _, z3⟩, iterK_new z4, iterK_new z5⟩, fun c hc => fpNew I1 ?_, q⟩
  simp only [List.mem_cons, List.not_mem_nil, or_false] at hc
  rcases hc with rfl | rfl | rfl | rfl | rfl <;> first | exact Nat.le_refl _ | exact Nat.le_add_right _ _
variable {G : Cfg} {ds : List ED}
theorem si_enum (hg : Gl X "enumerate") (hm : X.mg "enumerate" = none) (ha : PA X [e] (tL G ds)) (hs : starEach [e] X.env = [(false, eval e X.env)]) : PI X (.Tuple elts kk tpos) (.Call (.Name "enumerate" p) [e] [] pos) (tI G (iOf enumV ds)) := (pi_enumK hg hm ha hs).pv fun σ H R ⟨M, env, Rl, p⟩ => by
  refine Post.bindL Rl p fun vs e2 xs M2 H2 q x2 R2 r2 p2 => ?_
  simp only at p2
  match vs, r2, p2 with
  | [], _, p2 => exact p2.elim
  | _ :: _ :: _, _, p2 => exact p2.elim
  | [v], r2, p2 =>
    rw [rpl_cons] at r2; obtain ⟨x, r, rfl, h1, h2⟩ := r2
    rw [rpl_nil] at h2; subst h2
    simp only [enumV] at p2
    cases e : seqKV v with
    | none => rw [e] at p2; exact p2.elim
    | some ws =>
      rw [e] at p2
      obtain ⟨k, ys, rfl, na, ha, l, z⟩ := seqKV_rp e h1
      exact ⟨k, ys, rfl, ha, p2 M2 H2 .refl R2 _ (itOk_enum na ha l)⟩
theorem si_zip (hg : Gl X "zip") (hm : X.mg "zip" = none) (ha : PA X [e, e2] (tL G ds)) (hs : starEach [e, e2] X.env = (false, eval e X.env) :: starEach [e2] X.env) (hpl : (backTo pos (starEach [e2] X.env)).any (·.1) = false) :
    PI X (.Tuple elts kk tpos) (.Call (.Name "zip" p) [e, e2] [] pos) (tI G (iOf zipVs ds)) := (pi_zipK hg hm ha hs hpl).pv fun σ H R ⟨M, env, Rl, p⟩ => by
  refine Post.bindL Rl p fun vs e2 xs M2 H2 q x2 R2 r2 p2 => ?_
  simp only at p2
  match vs, r2, p2 with
  | [], _, p2 => exact p2.elim
  | [_], _, p2 => exact p2.elim
  | _ :: _ :: _ :: _, _, p2 => exact p2.elim
  | [v, w], r2, p2 =>
    rw [rpl_cons] at r2; obtain ⟨x, r, rfl, h1, r2⟩ := r2
    rw [rpl_cons] at r2; obtain ⟨y, r, rfl, h2, r2⟩ := r2
    rw [rpl_nil] at r2; subst r2
    simp only [zipVs] at p2
    cases e : seqKV v with
    | none => rw [e] at p2; exact p2.elim
    | some q =>
      cases e' : seqKV w with
      | none => rw [e, e'] at p2; exact p2.elim
      | some q' =>
        rw [e, e'] at p2
        obtain ⟨k, ys, rfl, na, ha, l, z⟩ := seqKV_rp e h1
        obtain ⟨k', ys', rfl, na', ha', l', z'⟩ := seqKV_rp e' h2
        exact ⟨k, k', ys, ys', rfl, ha, ha', p2 M2 H2 .refl R2 _ (itOk_zip na na' ha ha' l l')⟩
end
end PV

namespace PV
open PySem PySem.Spec PyProof.Rows L2

/-! ### a def's promise from its denotation -/
def env0 (n : Nat) (ws : List Val) : EnvD := ws.map Slot.frz ++ List.replicate (n - ws.length) .emp
def runF (N m : Nat) (d : SD) : Fn := fun ws => if ws.length = m then (match d (env0 N ws) with
  | .ok (.ret v o _) => .ok (v, o)
  | .ok (.nx _) => .ok (.non, false)
  | .exc c p => .exc c p
  | _ => .bad) else .bad
theorem env0_rel {K : PySem.W.Frag} {H : Hp} {P : AP} {N : List Str} {ws : List Val} {vs : List V} (pal : ∀ a, P a → H a ≠ none) (r : RpL K H P ws vs) : RelEnv K H P (fun _ => False) (L2.start N vs) (env0 N.length ws) := by
  have hl := r.length
  have e : or' P (fun _ => False) = P := by funext a; simp [or']
  refine ⟨?_, fun i t h => ?_, fun i j a v w h => ?_, fun a h => h.elim, pal, fun a _ h => h⟩
  · simp [env0, L2.start, hl]
  · unfold env0 at h
    by_cases hi : i < ws.length
    · rw [List.getElem?_append_left (by simpa using hi)] at h
      rw [List.getElem?_map] at h
      cases q : ws[i]? with
      | none => rw [q] at h; cases h
      | some w =>
        rw [q] at h; cases h
        obtain ⟨x, hx, rx⟩ := r.get q
        refine ⟨x, ?_, by rw [e]; exact rx⟩
        unfold L2.start
        rw [List.getElem?_append_left (by rw [List.length_map, hl]; exact hi), List.getElem?_map, hx]; rfl
    · rw [List.getElem?_append_right (by simpa using Nat.le_of_not_lt hi), List.getElem?_replicate] at h
      split at h <;> cases h
      trivial
  · exfalso
    unfold env0 at h
    by_cases hi : i < ws.length
    · rw [List.getElem?_append_left (by simpa using hi), List.getElem?_map] at h
      cases q : ws[i]? with
      | none => rw [q] at h; cases h
      | some w => rw [q] at h; cases h
    · rw [List.getElem?_append_right (by simpa using Nat.le_of_not_lt hi), List.getElem?_replicate] at h
      split at h <;> cases h
section
variable {P : Program} {w : World} {K : PySem.W.Frag} {mg : Str → Option Value} {base : Heap}
/-- Ext from nothing of ours -/
theorem Ext.same0 {H H' : Hp} {M' : AP} (x : Ext (fun _ => False) H M' H') : ∀ a t, H a = some t → H' a = some t := fun a t e => x.keep a t e fun h => h
theorem ok_def {x qual : Str} {st : Stmt} {f : Addr} {fd : FuncData} {N ps : List Str} {k : Nat} {d : SD} (F : Fun K x qual st f fd) (S : FnScope N ps (defScope st))
    (hbody : ∀ (cdv : Value) (A : Around) (outer : List Env) (s : Shared) (H : Hp) (E : XK) (PP : AP), Room k (A.deeper (envOfC qual (defScope st) s.heap.objs.size f cdv)) →
      PSs (cxOf (L2.CX P w) P w K mg base N qual (defScope st) f cdv A outer s H E) (defBody st) (tS ⟨K, mg, PP, E⟩ none d)) : FnOk P w K mg base (L2.CX P w) (k + 1) f fd ps (spP K mg ps.length (runF N.length ps.length d)) := by
  refine F.okX S (fun vs H Q E h => h.1) fun cdv A outer s H vs Q E hr h => ?_
  obtain ⟨hl, PP, ws, pal, r, q⟩ := h
  refine ⟨_, hbody cdv A outer s H E PP hr, fun _ => False, env0 N.length ws, env0_rel pal r, (fun _ _ z => nomatch z), ?_⟩
  unfold runF at q
  have hw : ws.length = ps.length := by rw [← hl]; exact r.length.symm
  rw [if_pos hw] at q
  have e0 : ∀ M : AP, (∀ a, M a → False) → or' PP M = PP := fun M h => by funext a; simp only [or', eq_iff_iff]; exact ⟨fun z => z.elim id fun m => (h a m).elim, .inl⟩
  cases e : d (env0 N.length ws) with
  | ok z =>
    rw [e] at q
    intro M' H' ex
    have sm := ex.same0
    cases z with
    | nx env => exact fun σ R hp => q .non H' sm (by show Rp _ _ _ _ _; exact rp_non.mpr rfl)
    | brk env => exact q.elim
    | cnt env => exact q.elim
    | ret v o env =>
      intro σ x R hp rx
      refine q x H' sm ?_
      cases o with
      | false => exact Rp.stay (Stay.less fun a h => .inl h) _ _ rx
      | true =>
        obtain ⟨a, rfl, ma, ow, _⟩ := rx
        have nn : H a = none := (ex.mem a ma).elim (fun h => h.elim) id
        exact ⟨a, rfl, nn, ow.stay (Stay.less fun b h => h.elim .inl fun e => .inr (by subst e; exact ma)) rfl⟩
  | exc c p =>
    rw [e] at q
    intro cls dd M' H' ex xo
    refine q cls dd H' ex.same0 ?_
    obtain ⟨C, h1, h2, h3⟩ := xo
    refine ⟨C, h1, h2, ?_⟩
    cases p with
    | none => exact h3
    | some p =>
      obtain ⟨dd, y, e1, e2, e3, e4⟩ := h3
      exact ⟨dd, y, e1, e2, fun z => e3 (.inl z), Rp.stay (Stay.less fun a h => .inl h) _ _ e4⟩
  | bad => rw [e] at q; exact q.elim

def env0H (N : Nat) (h : Val) (ws : List Val) : EnvD := .own h :: (ws.map Slot.frz ++ List.replicate (N - (ws.length + 1)) .emp)
def runH (N m : Nat) (d : SD) : FnH := fun h ws => if ws.length + 1 = m then (match d (env0H N h ws) with
  | .ok (SR.ret v false env) => (match (env[0]? : Option Slot) with
    | some (Slot.own h') => .ok (v, h')
    | _ => .bad)
  | _ => .bad) else .bad
theorem env0H_rel {K : PySem.W.Frag} {H : Hp} {P : AP} {N : List Str} {a : Addr} {h : Val} {ws : List Val} {vs : List V} (pal : ∀ a, P a → H a ≠ none) (na : ¬ P a) (ow : OwnAt K H (or' P (· = a)) a h) (r : RpL K H (or' P (· = a)) ws vs) : RelEnv K H P (· = a) (L2.start N (.ref a :: vs)) (env0H N.length h ws) := by
  have hl := r.length
  have e1 : L2.start N (.ref a :: vs) = some (.ref a) :: (vs.map some ++ List.replicate (N.length - (ws.length + 1)) none) := by
    simp [L2.start, hl]
  have own0 : ∀ (i : Nat) (v : Val), (env0H N.length h ws)[i]? = some (.own v) → i = 0 := fun i v q => by
    cases i with
    | zero => rfl
    | succ i =>
      exfalso
      unfold env0H at q
      rw [List.getElem?_cons_succ] at q
      by_cases hi : i < ws.length
      · rw [List.getElem?_append_left (by simpa using hi), List.getElem?_map] at q
        cases q' : ws[i]? with
        | none => rw [q'] at q; cases q
        | some w => rw [q'] at q; cases q
      · rw [List.getElem?_append_right (by simpa using Nat.le_of_not_lt hi), List.getElem?_replicate] at q
        split at q <;> cases q
  refine ⟨?_, fun i t q => ?_, fun i j b v w q1 q2 _ _ => by rw [own0 i v q1, own0 j w q2], fun b m => by subst m; exact ow.ne, pal, fun b p m => by subst m; exact na p⟩
  · rw [e1]; simp [env0H, hl]
  · cases i with
    | zero => cases q; exact ⟨a, by rw [e1]; rfl, rfl, ow⟩
    | succ i =>
      unfold env0H at q
      rw [List.getElem?_cons_succ] at q
      by_cases hi : i < ws.length
      · rw [List.getElem?_append_left (by simpa using hi)] at q
        rw [List.getElem?_map] at q
        cases q' : ws[i]? with
        | none => rw [q'] at q; cases q
        | some w =>
          rw [q'] at q; cases q
          obtain ⟨x, hx, rx⟩ := r.get q'
          refine ⟨x, ?_, rx⟩
          rw [e1, List.getElem?_cons_succ, List.getElem?_append_left (by rw [List.length_map, hl]; exact hi), List.getElem?_map, hx]; rfl
      · rw [List.getElem?_append_right (by simpa using Nat.le_of_not_lt hi), List.getElem?_replicate] at q
        split at q <;> cases q
        trivial
theorem ok_defH {x qual : Str} {st : Stmt} {f : Addr} {fd : FuncData} {N ps : List Str} {k : Nat} {d : SD} (F : Fun K x qual st f fd) (S : FnScope N ps (defScope st))
    (hbody : ∀ (cdv : Value) (A : Around) (outer : List Env) (s : Shared) (H : Hp) (E : XK) (PP : AP) (a : Addr), Room k (A.deeper (envOfC qual (defScope st) s.heap.objs.size f cdv)) →
      PSs (cxOf (L2.CX P w) P w K mg base N qual (defScope st) f cdv A outer s H E) (defBody st) (tS ⟨K, mg, PP, E⟩ (some (0, .ref a)) d)) : FnOk P w K mg base (L2.CX P w) (k + 1) f fd ps (spH K ps.length (runH N.length ps.length d)) := by
  refine F.okX S (fun vs H Q E h => h.1) fun cdv A outer s H vs Q E hr h => ?_
  obtain ⟨hl, PP, a, hh, ws, xs, rfl, pal, na, ow, r, q⟩ := h
  refine ⟨_, hbody cdv A outer s H E PP a hr, (· = a), env0H N.length hh ws, env0H_rel pal na ow r, fun i x z => by cases z; rfl, ?_⟩
  unfold runH at q
  have hw : ws.length + 1 = ps.length := by rw [← hl, List.length_cons, r.length]
  rw [if_pos hw] at q
  cases e : d (env0H N.length hh ws) with
  | ok z =>
    rw [e] at q
    intro M' H' ex
    cases z with
    | nx env => exact q.elim
    | brk env => exact q.elim
    | cnt env => exact q.elim
    | ret v o env =>
      cases o with
      | true => exact q.elim
      | false =>
        intro σ x R hp rx
        simp only at q
        cases e0 : env[0]? with
        | none => rw [e0] at q; exact q.elim
        | some t =>
          cases t with
          | emp => rw [e0] at q; exact q.elim
          | frz u => rw [e0] at q; exact q.elim
          | own h' =>
            rw [e0] at q
            obtain ⟨a', ea, ma, ow'⟩ := R.slot 0 _ e0
            have : a' = a := by
              have := hp 0 (.ref a) rfl
              rw [this] at ea; cases ea; rfl
            subst this
            have st : Stay H' (or' PP M') H' (or' PP (· = a')) := Stay.less fun b h => h.elim .inl fun e => .inr (by subst e; exact ma)
            exact q x H' (fun b t nb eb => ex.keep b t eb nb) (ow'.stay st rfl) (Rp.stay st _ _ rx)
  | exc c p => rw [e] at q; exact q.elim
  | bad => rw [e] at q; exact q.elim
end
end PV

namespace PV
open PySem PySem.Spec PyProof.Rows L2
open PySem.W (minD maxD dataLt)

/-! ### defs that are known -/
structure Good (P : Program) (w : World) (K : PySem.W.Frag) (mg : Str → Option Value) (base : Heap) (x : Str) (k : Nat) (ps : List Str) (F : Fn) : Prop where
  ex : ∃ f fd, FnOk P w K mg base (L2.CX P w) k f fd ps (spP K mg ps.length F) ∧ mg x = some (.ref f) ∧ PySem.W.keepIn K (.ref f) = true ∧ Binds K fd ps []
structure GoodH (P : Program) (w : World) (K : PySem.W.Frag) (mg : Str → Option Value) (base : Heap) (x : Str) (k : Nat) (ps : List Str) (F : FnH) : Prop where
  ex : ∃ f fd, FnOk P w K mg base (L2.CX P w) k f fd ps (spH K ps.length F) ∧ mg x = some (.ref f) ∧ PySem.W.keepIn K (.ref f) = true ∧ Binds K fd ps []

section
variable {X : Cx} {G : Cfg} {pin : Pin} {x : Str} {pos p pos' : Pos} {e e1 e2 e3 a b c : Expr} {es rest : List Expr} {d da db dc : ED} {ds : List ED} {k k' n : Nat} {ps : List Str}
theorem v_call {F : Fn} (g : Good X.prog X.w X.K X.mg X.base x k ps F) (hr : Room k' X.A) (hx : Passes (L2.CX X.prog X.w) X G.E) (ha : PA X (e :: es) (tL G ds)) (le : k ≤ k' := by decide) (hK : X.K = G.K := by rfl) (hm : X.mg = G.mg := by rfl)
    (hn : ds.length = ps.length := by rfl) (hg : Gl X x := by rfl) (hdb : (x == ("__debug__" : Str)) = false := by decide) (he : starEach (e :: es) X.env = (false, eval e X.env) :: starEach es X.env := by rfl) (hpl : (backTo pos (starEach es X.env)).any (·.1) = false := by rfl) :
    PE X (.Call (.Name x p) (e :: es) [] pos) (tE G (dCB F ds)) := by
  obtain ⟨f, fd, h1, h2, h3, h4⟩ := g.ex
  exact se_call (by rw [← hK, ← hm]; exact h1) (hr.mono le) hg h2 h3 h4 hx ha hn hdb he hpl
theorem v_callH {F : FnH} {i : Nat} (g : GoodH X.prog X.w X.K X.mg X.base x k ps F) (hr : Room k' X.A) (hx : Passes (L2.CX X.prog X.w) X G.E) (h0 : PE X e (tVar i)) (ha : PA X es (tL G ds)) (le : k ≤ k' := by decide) (hK : X.K = G.K := by rfl)
    (hn : ds.length + 1 = ps.length := by rfl) (hg : Gl X x := by rfl) (hdb : (x == ("__debug__" : Str)) = false := by decide) (he : starEach (e :: es) X.env = (false, eval e X.env) :: starEach es X.env := by rfl) (hpl : (backTo pos (starEach es X.env)).any (·.1) = false := by rfl) :
    PE X (.Call (.Name x p) (e :: es) [] pos) (tE G (dCallH F i ds)) := by
  obtain ⟨f, fd, h1, h2, h3, h4⟩ := g.ex
  exact se_callH (by rw [← hK]; exact h1) (hr.mono le) hg h2 h3 h4 hx h0 ha hn hdb he hpl
theorem pass_top {P : Program} {w : World} {K : PySem.W.Frag} {mg : Str → Option Value} {base : Heap} {N : List Str} {qual : Str} {scope : Scope} {f : Addr} {cd : Value} {A : Around} {outer : List Env} {s : Shared} {H : Hp} {E : XK} :
    Passes (L2.CX P w) (cxOf (L2.CX P w) P w K mg base N qual scope f cd A outer s H E) E := passes_call (takes_of rfl rfl rfl rfl) fun _ _ _ _ h => h

/-! ### names -/
theorem v_var (i : Nat) (hN : X.N[i]? = some x := by rfl) (hv : Vis X.env.scope x := by first | exact Or.inl rfl | exact Or.inr (Or.inl rfl) | exact Or.inr (Or.inr rfl)) (hd : (x == ("__debug__" : Str)) = false := by decide)
    (hcd : (x == ("__classdict__" : Str)) = false := by decide) : PE X (.Name x pos) (tE G (dVar i)) := se_var hN hv hd hcd
theorem v_ty {T : String} (hm : X.mg x = none) (hv : bootBuiltins x = some (.type T)) (hg : Gl X x := by rfl) (hn : x ≠ "__name__" := by decide) (hd : (x == ("__debug__" : Str)) = false := by decide) : PE X (.Name x pos) (tE G (dC (.ty T))) :=
  se_c (pe_bltn (v := .ty T) hg hm hv rfl hn hd) fun _ _ => rp_ty.mpr rfl

/-- .. an argument -/
theorem v_cons (hd : PE X e (tE G d)) (hr : PA X es (tL G ds)) (hs : starEach (e :: es) X.env = (false, eval e X.env) :: starEach es X.env := by rfl) : PA X (e :: es) (tL G (d :: ds)) := sa_cons hd hr hs
/-! ### comparisons -/
theorem v_cmp {op : CmpOp} {r : R2} {f : Val → Val → Res (Val × Bool)} (ho : OpR X (compareOp op) r) (hs : OpS G.K r f) (ha : PE X a (tE G da)) (hb : PE X b (tE G db)) (hm : behindInMarks op b = false := by rfl) : PE X (.Compare a [op] [b] pos) (tE G (dBin f da db)) := se_cmp ho hs ha hb hm
theorem v_cmpS {op : CmpOp} {r : R2} {f : Val → Val → Res (Val × Bool)} {i : Nat} (ho : OpR X (compareOp op) r) (hs : OpSR2 G.K r f) (ha : PE X a (tE G da)) (hb : PE X b (tVar i)) (hm : behindInMarks op b = false := by rfl) : PE X (.Compare a [op] [b] pos) (tE G (dRS f da i)) := se_cmpS ho hs ha hb hm
theorem vt_cmp {op : CmpOp} {r : R2} {f : Val → Val → Res (Val × Bool)} (ho : OpR X (compareOp op) r) (hs : OpS G.K r f) (ha : PE X a (tE G da)) (hb : PE X b (tE G db)) (hm : behindInMarks op b = false := by rfl) : PT X (.Compare a [op] [b] pos) (tT G (dTB (dBin f da db))) := st_cmp ho hs ha hb hm
theorem vt_cmpS {op : CmpOp} {r : R2} {f : Val → Val → Res (Val × Bool)} {i : Nat} (ho : OpR X (compareOp op) r) (hs : OpSR2 G.K r f) (ha : PE X a (tE G da)) (hb : PE X b (tVar i)) (hm : behindInMarks op b = false := by rfl) : PT X (.Compare a [op] [b] pos) (tT G (dTB (dRS f da i))) := st_cmpS ho hs ha hb hm
theorem vt_true (ha : PE X a (tE G da)) (hK : X.K = G.K := by rfl) (he : ∀ whole, isTrue a X.env whole = (do let v ← whole; standAt a.pos; holding [v] (truthy v)) := by intro _; rfl) : PT X a (tT G (dTru da)) := st_truth ha hK he
theorem vt_trueS {i : Nat} (ha : PE X a (tVar i)) (hK : X.K = G.K := by rfl) (he : ∀ whole, isTrue a X.env whole = (do let v ← whole; standAt a.pos; holding [v] (truthy v)) := by intro _; rfl) : PT X a (tT G (dTruS i)) := st_truthS ha hK he
/-! ### built-in calls -/
theorem v_blt {id : String} {r : List V → Hp → VK → Prop} {f : List Val → Res (Val × Bool)} (hc : CallR X (.builtin id) r) (hs : OpSL G.K r f) (hm : X.mg x = none) (hv : bootBuiltins x = some (.builtin id)) (ha : PA X (e :: es) (tL G ds)) (hg : Gl X x := by rfl) (hn : x ≠ "__name__" := by decide) (hdb : (x == ("__debug__" : Str)) = false := by decide)
    (he : starEach (e :: es) X.env = (false, eval e X.env) :: starEach es X.env := by rfl) (hpl : (backTo pos (starEach es X.env)).any (·.1) = false := by rfl) : PE X (.Call (.Name x p) (e :: es) [] pos) (tE G (dCB f ds)) := (pe_callB hc hg hm hv ha hn hdb he hpl).pv fun σ H Q h => tE_CB hs h
theorem v_bltS {id : String} {r : List V → Hp → VK → Prop} {f : Val → Res (Val × Bool)} {i : Nat} (hc : CallR X (.builtin id) r) (hs : OpSLR G.K r f) (hm : X.mg x = none) (hv : bootBuiltins x = some (.builtin id)) (ha : PE X e (tVar i)) (hg : Gl X x := by rfl) (hn : x ≠ "__name__" := by decide) (hdb : (x == ("__debug__" : Str)) = false := by decide)
    (he : starEach [e] X.env = (false, eval e X.env) :: starEach [] X.env := by rfl) (hpl : (backTo pos (starEach [] X.env)).any (·.1) = false := by rfl) : PE X (.Call (.Name x p) [e] [] pos) (tE G (dCBS f i)) := (pe_callB hc hg hm hv (pa_cons ha pa_nil he) hn hdb he hpl).pv fun σ H Q h => tE_CBS hs h
theorem v_bty {T : String} {r : List V → Hp → VK → Prop} {f : List Val → Res (Val × Bool)} (hc : CallR X (.type T) r) (hs : OpSL G.K r f) (hm : X.mg x = none) (hv : bootBuiltins x = some (.type T)) (ha : PA X (e :: es) (tL G ds)) (hg : Gl X x := by rfl) (hn : x ≠ "__name__" := by decide) (hdb : (x == ("__debug__" : Str)) = false := by decide)
    (he : starEach (e :: es) X.env = (false, eval e X.env) :: starEach es X.env := by rfl) (hpl : (backTo pos (starEach es X.env)).any (·.1) = false := by rfl) : PE X (.Call (.Name x p) (e :: es) [] pos) (tE G (dCB f ds)) := (pe_callTy hc hg hm hv ha hn hdb he hpl).pv fun σ H Q h => tE_CB hs h
theorem v_btyS {T : String} {r : List V → Hp → VK → Prop} {f : Val → Res (Val × Bool)} {i : Nat} (hc : CallR X (.type T) r) (hs : OpSLR G.K r f) (hm : X.mg x = none) (hv : bootBuiltins x = some (.type T)) (ha : PE X e (tVar i)) (hg : Gl X x := by rfl) (hn : x ≠ "__name__" := by decide) (hdb : (x == ("__debug__" : Str)) = false := by decide)
    (he : starEach [e] X.env = (false, eval e X.env) :: starEach [] X.env := by rfl) (hpl : (backTo pos (starEach [] X.env)).any (·.1) = false := by rfl) : PE X (.Call (.Name x p) [e] [] pos) (tE G (dCBS f i)) := (pe_callTy hc hg hm hv (pa_cons ha pa_nil he) hn hdb he hpl).pv fun σ H Q h => tE_CBS hs h
/-! ### subscripts -/
theorem v_ix (U : X.A.units + 70 < cLine) (ha : PE X a (tE G da)) (hb : PE X b (tE G db)) (hK : X.K = G.K := by rfl) (hs : PlainIx b := by exact fun _ _ => rfl) : PE X (.Subscript a b pos) (tE G (dBin oIx da db)) := se_ix (by omega) hK ha hb hs
theorem v_ixS {i : Nat} (U : X.A.units + 70 < cLine) (ha : PE X a (tVar i)) (hb : PE X b (tE G db)) (hK : X.K = G.K := by rfl) (hs : PlainIx b := by exact fun _ _ => rfl) : PE X (.Subscript a b pos) (tE G (dIxS i db)) := se_ixS (by omega) hK ha hb hs
theorem v_sl {lo hi : Option Expr} {dl dh : OD} {p2 : Pos} (he : PE X e (tE G d)) (hl : PO X lo (tO G dl)) (hh : PO X hi (tO G dh)) (hK : X.K = G.K := by rfl) : PE X (.Subscript e (.Slice lo hi none p2) pos) (tE G (dSl d dl dh)) := se_sl hK he hl hh
/-! ### displays -/
theorem v_tup {x1} (h : PA X es (tL G ds)) (hl : ds.length ≤ 1000 := by decide) : PE X (.Tuple es x1 pos) (tE G (dTup ds)) := se_tup h hl
theorem v_lst (h : PA X es (tL G ds)) (hl : ds.length ≤ 1000 := by decide) : PE X (.List es pos) (tE G (dLst ds)) := se_lst h hl
/-! ### comprehensions -/
theorem v_lc (own : List (Str × Nat)) {js : List Nat} {elt tg iter : Expr} {scope : Scope} {ws : List Nat} {it : ID} {g : GD} (hN : X.N.Nodup) (hi : PI X tg iter (tI G it))
    (htg : ∀ (s : Shared) (H : Hp) (C : Addr) (cl : List (Str × Addr)) (fp : List Addr) (P : PV.AP), PG (X.blk s H scope (compEnvC scope cl C X.env) fp) tg (tG (G.blk P) ws g))
    (helt : ∀ (s : Shared) (H : Hp) (C : Addr) (cl : List (Str × Addr)) (fp : List Addr) (P : PV.AP), PE (X.blk s H scope (compEnvC scope cl C X.env) fp) elt (tE (G.blk P) d))
    (hjs : own.map (·.2) = js := by rfl) (hc : X.calm = true := by rfl) (ok : blkC X.N X.env.scope scope own = true := by kernel_rfl) (sub : ∀ j ∈ ws, j ∈ js := by decide) (hs : ∀ x, foldedSetIterable iter X.env x = pure x := by intro _; rfl) :
    PE X (.ListComp elt [⟨tg, iter, [], 0⟩] scope pos) (tE G (dLc js it g dYes d)) := by
  subst hjs
  exact se_lc hc hN hi (blkOk_by ok) ⟨htg, .inl ⟨rfl, rfl⟩, helt, sub⟩ hs
theorem v_lcIf (own : List (Str × Nat)) {js : List Nat} {elt tg iter : Expr} {scope : Scope} {ws : List Nat} {it : ID} {g : GD} {t : TD} (hN : X.N.Nodup) (hi : PI X tg iter (tI G it))
    (htg : ∀ (s : Shared) (H : Hp) (C : Addr) (cl : List (Str × Addr)) (fp : List Addr) (P : PV.AP), PG (X.blk s H scope (compEnvC scope cl C X.env) fp) tg (tG (G.blk P) ws g))
    (hif : ∀ (s : Shared) (H : Hp) (C : Addr) (cl : List (Str × Addr)) (fp : List Addr) (P : PV.AP), PT (X.blk s H scope (compEnvC scope cl C X.env) fp) c (tT (G.blk P) t))
    (helt : ∀ (s : Shared) (H : Hp) (C : Addr) (cl : List (Str × Addr)) (fp : List Addr) (P : PV.AP), PE (X.blk s H scope (compEnvC scope cl C X.env) fp) elt (tE (G.blk P) d))
    (hjs : own.map (·.2) = js := by rfl) (hc : X.calm = true := by rfl) (ok : blkC X.N X.env.scope scope own = true := by kernel_rfl) (sub : ∀ j ∈ ws, j ∈ js := by decide) (hs : ∀ x, foldedSetIterable iter X.env x = pure x := by intro _; rfl) :
    PE X (.ListComp elt [⟨tg, iter, [c], 0⟩] scope pos) (tE G (dLc js it g t d)) := by
  subst hjs
  exact se_lc hc hN hi (blkOk_by ok) ⟨htg, .inr ⟨c, rfl, hif⟩, helt, sub⟩ hs
theorem v_setLc {i : Nat} {y : Str} {py spos : Pos} (own : List (Str × Nat)) {js : List Nat} {elt tg iter : Expr} {scope : Scope} {ws : List Nat} {it : ID} {g : GD} (hN : X.N.Nodup) (hi : PI X tg iter (tI G it))
    (htg : ∀ (s : Shared) (H : Hp) (C : Addr) (cl : List (Str × Addr)) (fp : List Addr) (P : PV.AP), PG (X.blk s H scope (compEnvC scope cl C X.env) fp) tg (tG (G.blk P) ws g))
    (helt : ∀ (s : Shared) (H : Hp) (C : Addr) (cl : List (Str × Addr)) (fp : List Addr) (P : PV.AP), PE (X.blk s H scope (compEnvC scope cl C X.env) fp) elt (tE (G.blk P) d))
    (hy : X.N[i]? = some y := by rfl) (hyl : X.env.scope.names.lookup y = some .local := by rfl)
    (hsw : swapsWith (.ListComp elt [⟨tg, iter, [], 0⟩] scope pos) (some (.Name y py)) spos.line X.env = pure true := by rfl)
    (hjs : own.map (·.2) = js := by rfl) (hc : X.calm = true := by rfl) (ok : blkC X.N X.env.scope scope own = true := by kernel_rfl) (sub : ∀ j ∈ ws, j ∈ js := by decide) (hs : ∀ x, foldedSetIterable iter X.env x = pure x := by intro _; rfl)
    (np : NoPins pin [i] := by intro j x z; cases z <;> decide) (np' : NoPin pin i := by intro j x z; cases z <;> decide) :
    PS X (.Assign [.Name y py] (.ListComp elt [⟨tg, iter, [], 0⟩] scope pos) spos) (tS G pin (sOwn (dLc js it g dYes d) i)) := by
  subst hjs
  exact ss_setLc (o := true) hc hN hy hyl hsw hi (blkOk_by ok) ⟨htg, .inl ⟨rfl, rfl⟩, helt, sub⟩ hs np np'
theorem v_setLcIf {i : Nat} {y : Str} {py spos : Pos} (own : List (Str × Nat)) {js : List Nat} {elt tg iter : Expr} {scope : Scope} {ws : List Nat} {it : ID} {g : GD} {t : TD} (hN : X.N.Nodup) (hi : PI X tg iter (tI G it))
    (htg : ∀ (s : Shared) (H : Hp) (C : Addr) (cl : List (Str × Addr)) (fp : List Addr) (P : PV.AP), PG (X.blk s H scope (compEnvC scope cl C X.env) fp) tg (tG (G.blk P) ws g))
    (hif : ∀ (s : Shared) (H : Hp) (C : Addr) (cl : List (Str × Addr)) (fp : List Addr) (P : PV.AP), PT (X.blk s H scope (compEnvC scope cl C X.env) fp) c (tT (G.blk P) t))
    (helt : ∀ (s : Shared) (H : Hp) (C : Addr) (cl : List (Str × Addr)) (fp : List Addr) (P : PV.AP), PE (X.blk s H scope (compEnvC scope cl C X.env) fp) elt (tE (G.blk P) d))
    (hy : X.N[i]? = some y := by rfl) (hyl : X.env.scope.names.lookup y = some .local := by rfl)
    (hsw : swapsWith (.ListComp elt [⟨tg, iter, [c], 0⟩] scope pos) (some (.Name y py)) spos.line X.env = pure true := by rfl)
    (hjs : own.map (·.2) = js := by rfl) (hc : X.calm = true := by rfl) (ok : blkC X.N X.env.scope scope own = true := by kernel_rfl) (sub : ∀ j ∈ ws, j ∈ js := by decide) (hs : ∀ x, foldedSetIterable iter X.env x = pure x := by intro _; rfl)
    (np : NoPins pin [i] := by intro j x z; cases z <;> decide) (np' : NoPin pin i := by intro j x z; cases z <;> decide) :
    PS X (.Assign [.Name y py] (.ListComp elt [⟨tg, iter, [c], 0⟩] scope pos) spos) (tS G pin (sOwn (dLc js it g t d) i)) := by
  subst hjs
  exact ss_setLc (o := true) hc hN hy hyl hsw hi (blkOk_by ok) ⟨htg, .inr ⟨c, rfl, hif⟩, helt, sub⟩ hs np np'
/-! ### walks -/
variable {tg : Expr} {elts : List Expr} {kk : Nat} {tpos : Pos}
theorem v_ival (he : PE X e (tE G d)) (hK : X.K = G.K := by rfl) : PI X tg e (tI G (iVal d)) := si_val hK he
theorem v_rng1 (hm : X.mg "range" = none) (ha : PA X [e] (tL G ds)) (hn : ds.length = 1 := by rfl) (hg : Gl X "range" := by rfl) (hs : starEach [e] X.env = [(false, eval e X.env)] := by rfl) : PI X tg (.Call (.Name "range" p) [e] [] pos) (tI G (iRng ds)) := si_rng1 hg hm ha hn hs
theorem v_rng2 (hm : X.mg "range" = none) (ha : PA X [e, e2] (tL G ds)) (hn : ds.length = 2 := by rfl) (hg : Gl X "range" := by rfl) (hs : starEach [e, e2] X.env = [(false, eval e X.env), (false, eval e2 X.env)] := by rfl) (hs2 : starEach [e2] X.env = [(false, eval e2 X.env)] := by rfl) : PI X tg (.Call (.Name "range" p) [e, e2] [] pos) (tI G (iRng ds)) := si_rng2 hg hm ha hn hs hs2
theorem v_rng3 (hm : X.mg "range" = none) (ha : PA X [e, e2, e3] (tL G ds)) (hn : ds.length = 3 := by rfl) (hg : Gl X "range" := by rfl) (hs : starEach [e, e2, e3] X.env = (false, eval e X.env) :: starEach [e2, e3] X.env := by rfl) (hpl : (backTo pos (starEach [e2, e3] X.env)).any (·.1) = false := by rfl) : PI X tg (.Call (.Name "range" p) [e, e2, e3] [] pos) (tI G (iRng ds)) := si_rng3 hg hm ha hn hs hpl
theorem v_enum (hm : X.mg "enumerate" = none) (ha : PA X [e] (tL G ds)) (hg : Gl X "enumerate" := by rfl) (hs : starEach [e] X.env = [(false, eval e X.env)] := by rfl) : PI X (.Tuple elts kk tpos) (.Call (.Name "enumerate" p) [e] [] pos) (tI G (iOf enumV ds)) := si_enum hg hm ha hs
theorem v_zip (hm : X.mg "zip" = none) (ha : PA X [e, e2] (tL G ds)) (hg : Gl X "zip" := by rfl) (hs : starEach [e, e2] X.env = (false, eval e X.env) :: starEach [e2] X.env := by rfl) (hpl : (backTo pos (starEach [e2] X.env)).any (·.1) = false := by rfl) : PI X (.Tuple elts kk tpos) (.Call (.Name "zip" p) [e, e2] [] pos) (tI G (iOf zipVs ds)) := si_zip hg hm ha hs hpl
/-! ### targets -/
theorem g_nm (i : Nat) (hN : X.N.Nodup) (hi : X.N[i]? = some x := by rfl) (hx : Loc X.env.scope x := by first | exact Or.inl rfl | exact Or.inr rfl) (hf : X.fn x = true ∨ X.env.scope.names.lookup x = some .local := by first | exact Or.inl rfl | exact Or.inr rfl) : PG X (.Name x pos) (tG G [i] (gN i)) := sg_name hN hi hx hf
theorem g_cons {w1 w2 : List Nat} {d : GD} {ds : GDs} (h1 : PG X e (tG G w1 d)) (h2 : PGs X es (tGs G w2 ds)) (hs : (assignEach (e :: es) X.env).map (·.2) = assign e X.env :: (assignEach es X.env).map (·.2) := by rfl) : PGs X (e :: es) (tGs G (w1 ++ w2) (gsCons d ds)) := sgs_cons h1 h2 hs
theorem g_tup {ws : List Nat} {k n : Nat} {ds : GDs} (h : PGs X es (tGs G ws ds)) (hc : X.calm = true := by rfl) (hK : X.K = G.K := by rfl) (hn : (assignEach es X.env).length = n := by rfl) (hst : (assignEach es X.env).findIdx? (·.1) = none := by rfl) : PG X (.Tuple es k pos) (tG G ws (gT n ds)) := sg_tup hc hK h hn hst
/-! ### statements -/
theorem v_expr (he : PE X e (tE G d)) (hs : swapsWith e none pos.line X.env = pure false := by rfl) : PS X (.Expr e pos) (tS G pin (sExpr d)) := ss_expr he hs
theorem v_set (i : Nat) (hN : X.N.Nodup) (he : PE X e (tE G d)) (hi : X.N[i]? = some x := by rfl) (hx : Loc X.env.scope x := by first | exact Or.inl rfl | exact Or.inr rfl) (hf : X.fn x = true ∨ X.env.scope.names.lookup x = some .local := by first | exact Or.inl rfl | exact Or.inr rfl)
    (np : NoPin pin i := by intro j x z; cases z <;> decide) (hs : swapsWith e (some (.Name x pos')) pos.line X.env = pure false := by rfl) : PS X (.Assign [.Name x pos'] e pos) (tS G pin (sOwn d i)) := ss_own hN hi hx hf np he hs
theorem v_asg {d : ED} {g : GD} {ws : List Nat} (he : PE X e (tE G d)) (hg : PG X tg (tG G ws g)) (np : NoPins pin ws := by intro j x z; cases z <;> decide) (hs : swapsWithSole [tg] e pos.line X.env = pure false := by rfl) (hw : swappedStores [tg] e X.env = pure none := by rfl) (h1 : (assignEach [tg] X.env).map (·.2) = [assign tg X.env] := by rfl) :
    PS X (.Assign [tg] e pos) (tS G pin (sAsg d g)) := ss_asg np he hg hs hw h1
theorem v_aug {op : Operator} {g : Int → Int → Int} (i : Nat) (hN : X.N.Nodup) (ho : PIp X op (ipI g)) (he : PE X e (tE G d)) (hi : X.N[i]? = some x := by rfl) (hx : Loc X.env.scope x := by first | exact Or.inl rfl | exact Or.inr rfl) (hf : X.fn x = true ∨ X.env.scope.names.lookup x = some .local := by first | exact Or.inl rfl | exact Or.inr rfl)
    (np : NoPin pin i := by intro j x z; cases z <;> decide) : PS X (.AugAssign (.Name x pos') op e pos) (tS G pin (sAug i g d)) := ss_aug hN hi hx hf np he ho
theorem v_for {it : ID} {g : GD} {bd : SD} {body : List Stmt} {ws : List Nat} (hp : PassesOwn (model X.prog X.w) X.A X.env X.xe) (hi : PI X tg e (tI G it)) (hg : PG X tg (tG G ws g)) (hb : PSs X body (tS G pin bd)) (np : NoPins pin ws := by intro j x z; cases z <;> decide) (hc : X.calm = true := by rfl) (hs : ∀ x, foldedSetIterable e X.env x = pure x := by intro _; rfl) :
    PS X (.For tg e body [] pos) (tS G pin (sFor it g bd)) := (ps_for hp hc hi hg hb hs).pv (tS_for np)
theorem v_setIx {j : Nat} {o i : Expr} {di dv : ED} (U : X.A.units + 70 < cLine) (ho : PE X o (tVar j)) (hi : PE X i (tE G di)) (hv : PE X e (tE G dv))
    (ha : ∀ v, assign (.Subscript o i pos') X.env v = (do
      let ov ← holding [v] (eval o X.env)
      let iv ← holding [v, ov] (eval i X.env)
      standAt pos'
      holding [v, ov, iv] (setItem ov iv v)
      release [v, ov, iv] []) := by intro _; rfl)
    (hs : swapsWithSole [.Subscript o i pos'] e pos.line X.env = pure false := by rfl) (hw : swappedStores [.Subscript o i pos'] e X.env = pure none := by rfl) (h1 : (assignEach [.Subscript o i pos'] X.env).map (·.2) = [assign (.Subscript o i pos') X.env] := by rfl) :
    PS X (.Assign [.Subscript o i pos'] e pos) (tS G pin (sSet j di dv)) := ss_set (by omega) ho hi hv ha hs hw h1
/-- a, b = x, y -/
def sPar (i j : Nat) (ds : List ED) : SD := fun env => dList ds env >>= fun r => match r.1 with
  | [v, w] => .ok (.nx ((r.2.set i (.frz v)).set j (.frz w)))
  | _ => .bad
theorem v_par {i j : Nat} {y : Str} {px py pt : Pos} {kt k2 pt2} (hN : X.N.Nodup) (ha : PA X [a, b] (tL G ds)) (hi : X.N[i]? = some x := by rfl) (hj : X.N[j]? = some y := by rfl) (hij : i ≠ j := by decide)
    (hx : X.env.scope.names.lookup x = some .local := by rfl) (hy : X.env.scope.names.lookup y = some .local := by rfl)
    (hw : swappedStores [.Tuple [.Name x px, .Name y py] kt pt] (.Tuple [a, b] k2 pt2) X.env = pure (some [x, y]) := by rfl)
    (hs : swapsWithSole [.Tuple [.Name x px, .Name y py] kt pt] (.Tuple [a, b] k2 pt2) pos.line X.env = pure false := by rfl) (hc : X.calm = true := by rfl) (np : NoPin pin i := by intro j x z; cases z <;> decide) (np' : NoPin pin j := by intro j x z; cases z <;> decide) :
    PS X (.Assign [.Tuple [.Name x px, .Name y py] kt pt] (.Tuple [a, b] k2 pt2) pos) (tS G pin (sPar i j ds)) := (ps_par hc hN hi hj hij hx hy ha hw hs).pv fun D σ H ⟨M, env, R, hp, p⟩ => by
  refine Post.bindL R p fun vs e2 xs M2 H2 q x2 R2 r2 p2 => ?_
  simp only at p2
  match vs, r2 with
  | [], _ => exact p2.elim
  | [_], _ => exact p2.elim
  | _ :: _ :: _ :: _, _ => exact p2.elim
  | [v, w], r2 =>
    rw [rpl_cons] at r2
    obtain ⟨x, r, rfl, h1, h2⟩ := r2
    rw [rpl_cons] at h2
    obtain ⟨y, r, rfl, h2, h3⟩ := h2
    rw [rpl_nil] at h3; subst h3
    exact ⟨x, y, rfl, p2.endN ((R2.bindF h1).bindF h2) ((hp.set np).set np')⟩
/-- a, b, c = x, y, z -/
def sPar3 (i j l : Nat) (ds : List ED) : SD := fun env => dList ds env >>= fun r => match r.1 with
  | [v, w, u] => .ok (.nx (((r.2.set i (.frz v)).set j (.frz w)).set l (.frz u)))
  | _ => .bad
theorem v_par3 {i j l : Nat} {y z : Str} {px py pz pt : Pos} {kt k2 pt2} (hN : X.N.Nodup) (ha : PA X [a, b, c] (tL G ds)) (hi : X.N[i]? = some x := by rfl) (hj : X.N[j]? = some y := by rfl) (hl : X.N[l]? = some z := by rfl) (hij : i ≠ j := by decide) (hil : i ≠ l := by decide) (hjl : j ≠ l := by decide)
    (hx : X.env.scope.names.lookup x = some .local := by rfl) (hy : X.env.scope.names.lookup y = some .local := by rfl) (hz : X.env.scope.names.lookup z = some .local := by rfl)
    (hw : swappedStores [.Tuple [.Name x px, .Name y py, .Name z pz] kt pt] (.Tuple [a, b, c] k2 pt2) X.env = pure (some [x, y, z]) := by rfl)
    (hs : swapsWithSole [.Tuple [.Name x px, .Name y py, .Name z pz] kt pt] (.Tuple [a, b, c] k2 pt2) pos.line X.env = pure false := by rfl) (hc : X.calm = true := by rfl) (np : NoPin pin i := by intro j x z; cases z <;> decide) (np' : NoPin pin j := by intro j x z; cases z <;> decide) (np2 : NoPin pin l := by intro j x z; cases z <;> decide) :
    PS X (.Assign [.Tuple [.Name x px, .Name y py, .Name z pz] kt pt] (.Tuple [a, b, c] k2 pt2) pos) (tS G pin (sPar3 i j l ds)) := (ps_par3 hc hN hi hj hl hij hil hjl hx hy hz ha hw hs).pv fun D σ H ⟨M, env, R, hp, p⟩ => by
  refine Post.bindL R p fun vs e2 xs M2 H2 q x2 R2 r2 p2 => ?_
  simp only at p2
  match vs, r2 with
  | [], _ => exact p2.elim
  | [_], _ => exact p2.elim
  | [_, _], _ => exact p2.elim
  | _ :: _ :: _ :: _ :: _, _ => exact p2.elim
  | [v, w, u], r2 =>
    rw [rpl_cons] at r2
    obtain ⟨x, r, rfl, h1, h2⟩ := r2
    rw [rpl_cons] at h2
    obtain ⟨y, r, rfl, h2, h3⟩ := h2
    rw [rpl_cons] at h3
    obtain ⟨z, r, rfl, h3, h4⟩ := h3
    rw [rpl_nil] at h4; subst h4
    exact ⟨x, y, z, rfl, p2.endN (((R2.bindF h1).bindF h2).bindF h3) (((hp.set np).set np').set np2)⟩
theorem v_while (n : Nat) {t : TD} {bd : SD} {body : List Stmt} (hp : PassesOwn (model X.prog X.w) X.A X.env X.xe) (ht : PT X c (tT G t)) (hb : PSs X body (tS G pin bd)) : PS X (.While c body [] pos) (tS G pin (sWhile n t bd)) := (ps_while hp ht hb).pv tS_while
theorem own_top {P : Program} {w : World} {K : PySem.W.Frag} {mg : Str → Option Value} {base : Heap} {N : List Str} {qual : Str} {scope : Scope} {f : Addr} {cd : Value} {A : Around} {outer : List Env} {s : Shared} {H : Hp} {E : XK} :
    PassesOwn (model P w) (cxOf (L2.CX P w) P w K mg base N qual scope f cd A outer s H E).A (cxOf (L2.CX P w) P w K mg base N qual scope f cd A outer s H E).env (cxOf (L2.CX P w) P w K mg base N qual scope f cd A outer s H E).xe := passes_of (X := cxOf (L2.CX P w) P w K mg base N qual scope f cd A outer s H E) rfl
/-- what is not looked at -/
def sNo : SD := fun _ => .bad
theorem v_no {st : Stmt} : PS X st (tS G pin sNo) := ps_never.pv fun D σ H ⟨M, env, R, hp, p⟩ => p.elim
def dNo : ED := fun _ => .bad
theorem v_noE : PE X e (tE G dNo) := ⟨fun pins s σ H Q I ⟨M, env, R, p⟩ => p.elim⟩
theorem v_app {j : Nat} {o : Expr} {apos : Pos} (ho : PE X o (tVar j)) (he : PE X e (tE G d))
    (hbase : attributeBase o "append" X.env (eval o X.env) = eval o X.env := by rfl)
    (hfew : ((backTo pos (starEach [e] X.env)).all (fun x => !x.1) && (backToKw pos (keywordEach [] X.env)).all (fun x => x.1.isSome)
      && decide ([e].length + ([] : List Keyword).length + (if ([] : List Keyword).isEmpty then 0 else 1) < 30)) = true := by rfl)
    (hline : (apos.endLine == pos.line) = true := by rfl) (hs : starEach [e] X.env = (false, eval e X.env) :: starEach [] X.env := by rfl) (hplain : (backTo pos (starEach [] X.env)).any (·.1) = false := by rfl) :
    PE X (.Call (.Attribute o "append" apos) [e] [] pos) (tE G (dApp j d)) :=
  se_app ho he (fun {to t} h1 h2 => pe_bm PySem.F.plainAttrs_list PySem.F.slot_list_append PySem.F.type_list_append mt_append h1 h2 hbase hfew hline hs hplain) hs
theorem v_ext {j : Nat} {o : Expr} {apos : Pos} (ho : PE X o (tVar j)) (he : PE X e (tE G d))
    (hbase : attributeBase o "extend" X.env (eval o X.env) = eval o X.env := by rfl)
    (hfew : ((backTo pos (starEach [e] X.env)).all (fun x => !x.1) && (backToKw pos (keywordEach [] X.env)).all (fun x => x.1.isSome)
      && decide ([e].length + ([] : List Keyword).length + (if ([] : List Keyword).isEmpty then 0 else 1) < 30)) = true := by rfl)
    (hline : (apos.endLine == pos.line) = true := by rfl) (hs : starEach [e] X.env = (false, eval e X.env) :: starEach [] X.env := by rfl) (hplain : (backTo pos (starEach [] X.env)).any (·.1) = false := by rfl) :
    PE X (.Call (.Attribute o "extend" apos) [e] [] pos) (tE G (dExt j d)) :=
  se_ext ho he (fun {to t} h1 h2 => pe_bm PySem.F.plainAttrs_list PySem.F.slot_list_extend PySem.F.type_list_extend mt_extend h1 h2 hbase hfew hline hs hplain) hs
theorem v_pop {j : Nat} {o : Expr} {apos : Pos} (ho : PE X o (tVar j)) (hbase : attributeBase o "pop" X.env (eval o X.env) = eval o X.env := by rfl) (hline : (apos.endLine == pos.line) = true := by rfl) : PE X (.Call (.Attribute o "pop" apos) [] [] pos) (tE G (dPop j)) :=
  se_pop ho fun {to} h1 => pe_bm0 PySem.F.plainAttrs_list PySem.F.slot_list_pop PySem.F.type_list_pop mt_pop h1 hbase hline
end
end PV

namespace PV
open PySem PySem.Spec PyProof.Rows L2
open PySem.W (minD maxD dataLt)
theorem u64 {A : Around} (U : A.units + 70 < cLine) : A.units + 64 < cLine := by omega
theorem u65 {A : Around} (U : A.units + 70 < cLine) : A.units + 65 < cLine := by omega
theorem u_of {A : Around} {k : Nat} (h : Room k A) : A.units + 70 < cLine := by have := h.un; omega
theorem bt_len : bootBuiltins "len" = some (.builtin "len") := by decide +kernel
theorem bt_sum : bootBuiltins "sum" = some (.builtin "sum") := by decide +kernel
theorem bt_min : bootBuiltins "min" = some (.builtin "min") := by decide +kernel
theorem bt_max : bootBuiltins "max" = some (.builtin "max") := by decide +kernel
theorem bt_sorted : bootBuiltins "sorted" = some (.builtin "sorted") := by decide +kernel
theorem bt_all : bootBuiltins "all" = some (.builtin "all") := by decide +kernel
theorem bt_any : bootBuiltins "any" = some (.builtin "any") := by decide +kernel
theorem bt_abs : bootBuiltins "abs" = some (.builtin "abs") := by decide +kernel
theorem bt_isinstance : bootBuiltins "isinstance" = some (.builtin "isinstance") := by decide +kernel
theorem bt_list : bootBuiltins "list" = some (.type "list") := by decide +kernel
theorem bt_tuple : bootBuiltins "tuple" = some (.type "tuple") := by decide +kernel
theorem bt_int : bootBuiltins "int" = some (.type "int") := by decide +kernel
theorem bt_bool : bootBuiltins "bool" = some (.type "bool") := by decide +kernel
theorem bt_str : bootBuiltins "str" = some (.type "str") := by decide +kernel
theorem bt_dict : bootBuiltins "dict" = some (.type "dict") := by decide +kernel
theorem bt_range : bootBuiltins "range" = some (.type "range") := by decide +kernel
def oRange : List Val → Res (Val × Bool)
  | [.int i, .int j] => .ok (.rng i j, false)
  | _ => .bad
theorem s_range {K : PySem.W.Frag} : OpSL K (fun vs H Q => ∃ i j, vs = [V.int i, V.int j] ∧ ∀ p, H p = none → Q (.ref p) (upd H p (.rng i j))) oRange := fun H A vs xs al l => by
  unfold oRange
  split
  · rename_i i j
    rw [rpl_cons] at l
    obtain ⟨x, r, rfl, h1, h2⟩ := l
    rw [rpl_cons] at h2
    obtain ⟨y, r, rfl, h2, h3⟩ := h2
    rw [rp_int] at h1 h2; rw [rpl_nil] at h3; subst h1 h2 h3
    exact fun Q q => ⟨i, j, rfl, fun p hp => q _ _ (same_upd hp) (show Rp _ _ _ _ _ from rp_rng.mpr ⟨p, rfl, fun z => al _ z hp, upd_same⟩)⟩
  · exact bad_ans
theorem cr_range1 {X : Cx} : CallR X (.type "range") (fun vs H Q => ∃ j, vs = [V.int j] ∧ ∀ p, H p = none → Q (.ref p) (upd H p (.rng 0 j))) := by
  intro pins s σ H vs us Q I r h
  obtain ⟨j, rfl, q⟩ := h
  obtain ⟨u1, rfl, rj⟩ := L2.vals1 r
  obtain ⟨t, rfl⟩ := rj
  refine call_range_1 ⟨.ref s.heap.objs.size, upd H s.heap.objs.size (.rng 0 j), I.laid (t' := s.toks + 2) (fun b o e => Heap.get?_push_of_some _ e) (Nat.le_refl _) ?_, rfl, q _ (I.hok.fresh (Nat.le_refl _))⟩
  exact ⟨_, t, _, Heap.get?_push_size _ rfl⟩
def oRange1 : Val → Res (Val × Bool)
  | .int j => .ok (.rng 0 j, false)
  | _ => .bad
theorem s_range1 {K : PySem.W.Frag} : OpSL K (fun vs H Q => ∃ j, vs = [V.int j] ∧ ∀ p, H p = none → Q (.ref p) (upd H p (.rng 0 j))) (on1 oRange1) := fun H A vs xs al l => by
  unfold on1
  split
  · rename_i v
    rw [rpl_cons] at l
    obtain ⟨x, r, rfl, h1, h2⟩ := l
    rw [rpl_nil] at h2; subst h2
    cases v <;> try exact bad_ans
    rename_i j
    rw [rp_int] at h1; subst h1
    exact fun Q q => ⟨j, rfl, fun p hp => q _ _ (same_upd hp) (show Rp _ _ _ _ _ from rp_rng.mpr ⟨p, rfl, fun z => al _ z hp, upd_same⟩)⟩
  · exact bad_ans
theorem v_glI' {X : Cx} {G : Cfg} {x : Str} {pos : Pos} {i : Int} (hm : ∃ t, X.mg x = some (.int i t)) (hg : Gl X x := by rfl) (hd : (x == ("__debug__" : Str)) = false := by decide) : PE X (.Name x pos) (tE G (dC (.int i))) := by
  obtain ⟨t, hm⟩ := hm
  exact se_c (pe_glob (v := .int i) hg hm ⟨_, rfl⟩ hd) fun _ _ => rp_int.mpr rfl
theorem v_glT' {X : Cx} {G : Cfg} {x : Str} {pos : Pos} {c : Str} (hm : ∃ t, X.mg x = some (.str c t)) (hg : Gl X x := by rfl) (hd : (x == ("__debug__" : Str)) = false := by decide) : PE X (.Name x pos) (tE G (dC (.str c))) := by
  obtain ⟨t, hm⟩ := hm
  exact se_c (pe_glob (v := .str c) hg hm ⟨_, rfl⟩ hd) fun _ _ => rp_str.mpr rfl
end PV

namespace PV
open PySem PySem.Spec PyProof.Rows L2
open PySem.W (dataLt alike alikeAll minD maxD keyToksAll dataLt_all_yes dataLt_all_no dataLt_tuple dataLt_int dataLt_list)

/-! ### results -/
def Res.Is {α : Type} (r : Res α) (Q : α → Prop) : Prop := match r with
  | .ok a => Q a
  | _ => False
section
variable {α β : Type} {r : Res α} {f : α → Res β} {Q R : α → Prop} {Q' : β → Prop} {a : α}
@[simp] theorem is_ok : (Res.ok a).Is Q = Q a := rfl
@[simp] theorem is_bad : (Res.bad : Res α).Is Q = False := rfl
theorem is_bind : (r >>= f).Is Q' ↔ r.Is fun a => (f a).Is Q' := by cases r <;> exact Iff.rfl
theorem Res.Is.bind (h : r.Is R) (k : ∀ a, R a → (f a).Is Q') : (r >>= f).Is Q' := by
  cases r with
  | ok a => exact k a h
  | exc c p => exact h.elim
  | bad => exact h.elim
theorem Res.Is.mono (h : r.Is R) (k : ∀ a, R a → Q a) : r.Is Q := by
  cases r with
  | ok a => exact k a h
  | exc c p => exact h.elim
  | bad => exact h.elim
theorem Res.Is.ex (h : r.Is R) : ∃ a, r = .ok a ∧ R a := by
  cases r with
  | ok a => exact ⟨a, rfl, h⟩
  | exc c p => exact h.elim
  | bad => exact h.elim
theorem Res.Is.of (h : r = .ok a) (q : Q a) : r.Is Q := by subst h; exact q
end
/-! ### loops -/
theorem for_inv {g : GD} {b : SD} {Q : SR → Prop} : ∀ (vs : List Val) (I : Nat → EnvD → Prop) (env : EnvD), I 0 env →
    (∀ i (hi : i < vs.length) env, I i env → (g vs[i] env >>= b).Is fun r => match r with
      | .nx e => I (i + 1) e
      | .cnt e => I (i + 1) e
      | .brk e => Q (.nx e)
      | .ret v o e => Q (.ret v o e)) → (∀ env, I vs.length env → Q (.nx env)) → (forLoop g b vs env).Is Q
  | [], I, env, h0, hs, he => he env h0
  | v :: vs, I, env, h0, hs, he => by
    have h := hs 0 (by simp) env h0
    rw [is_bind] at h
    unfold forLoop
    refine Res.Is.bind h fun e1 h1 => Res.Is.bind h1 fun r hr => ?_
    cases r with
    | nx e => exact for_inv vs (fun i => I (i + 1)) e hr (fun i hi env h => hs (i + 1) (by simpa using hi) env h) he
    | cnt e => exact for_inv vs (fun i => I (i + 1)) e hr (fun i hi env h => hs (i + 1) (by simpa using hi) env h) he
    | brk e => exact hr
    | ret v o e => exact hr
/-- each turn goes on, the next environment known -/
theorem for_fold {S : Type} {g : GD} {b : SD} (enc : S → EnvD) (step : S → Val → S) : ∀ (vs : List Val) (s : S), (∀ v ∈ vs, ∀ s, (g v (enc s) >>= b) = .ok (.nx (enc (step s v)))) → forLoop g b vs (enc s) = .ok (.nx (enc (vs.foldl step s)))
  | [], s, h => rfl
  | v :: vs, s, h => by
    have h1 := h v (by simp) s
    unfold forLoop
    cases e : g v (enc s) with
    | ok e1 =>
      rw [e] at h1
      simp only [res_ok_bind] at h1 ⊢
      rw [h1]
      exact for_fold enc step vs (step s v) fun w hw => h w (by simp [hw])
    | exc c p => rw [e] at h1; cases h1
    | bad => rw [e] at h1; cases h1
theorem while_inv {t : TD} {b : SD} {Q : SR → Prop} (I : Nat → EnvD → Prop) (hs : ∀ m env, I m env → (t env).Is fun r => if r.1 = true then (0 < m ∧ (b r.2).Is fun r => match r with
      | .nx e => I (m - 1) e
      | .cnt e => I (m - 1) e
      | .brk e => Q (.nx e)
      | .ret v o e => Q (.ret v o e)) else Q (.nx r.2)) : ∀ (n m : Nat) (env : EnvD), m < n → I m env → (whileLoop t b n env).Is Q
  | 0, m, env, h, _ => by omega
  | n + 1, m, env, h, hi => by
    unfold whileLoop
    refine Res.Is.bind (hs m env hi) fun r hr => ?_
    cases e : r.1 with
    | true =>
      rw [e] at hr
      simp only [if_true] at hr ⊢
      refine Res.Is.bind hr.2 fun s hs2 => ?_
      cases s with
      | nx e => exact while_inv I hs n (m - 1) e (by omega) hs2
      | cnt e => exact while_inv I hs n (m - 1) e (by omega) hs2
      | brk e => exact hs2
      | ret v o e => exact hs2
    | false =>
      rw [e] at hr
      simpa using hr
/-- a comprehension's turn -/
def lcStep (g : GD) (t : TD) (elt : ED) (v : Val) (env : EnvD) : Res (Option Val × EnvD) := g v env >>= fun e1 => t e1 >>= fun r => if r.1 then (elt r.2 >>= fun y => .ok (some y.1, y.2.2)) else .ok (none, r.2)
theorem lc_inv1 {own : List Nat} {g : GD} {t : TD} {elt : ED} {Q : List Val × EnvD → Prop} : ∀ (vs : List Val) (I : Nat → List Val → EnvD → Prop) (acc : List Val) (env : EnvD), I 0 acc env →
    (∀ i (hi : i < vs.length) acc env, I i acc env → (lcStep g t elt vs[i] env).Is fun z => I (i + 1) (acc ++ z.1.toList) (wipeD z.2 own)) → (∀ acc env, I vs.length acc env → Q (acc, env)) → (lcLoop own g t elt vs env acc).Is Q
  | [], I, acc, env, h0, hs, he => he acc env h0
  | v :: vs, I, acc, env, h0, hs, he => by
    have h := hs 0 (by simp) acc env h0
    unfold lcStep at h
    rw [is_bind] at h
    unfold lcLoop
    refine Res.Is.bind h fun e1 h1 => ?_
    rw [is_bind] at h1
    refine Res.Is.bind h1 fun r hr => ?_
    have go : ∀ acc e, I 1 acc e → (lcLoop own g t elt vs e acc).Is Q := fun acc e h => lc_inv1 vs (fun i => I (i + 1)) acc e h (fun i hi acc env h => hs (i + 1) (by simpa using hi) acc env h) he
    cases e : r.1 with
    | true =>
      rw [e] at hr
      simp only [if_true] at hr ⊢
      rw [is_bind] at hr
      exact Res.Is.bind hr fun y hy => go _ _ hy
    | false =>
      rw [e] at hr
      simp only [Bool.false_eq_true, if_false] at hr ⊢
      exact go _ _ (by simpa using hr)
theorem noX_is {α : Type} {r : Res α} {Q : α → Prop} (h : r.Is Q) : (noX r).Is Q := by
  cases r with
  | ok a => exact h
  | exc c p => exact h.elim
  | bad => exact h.elim
theorem lc_inv {own : List Nat} {it : ID} {g : GD} {t : TD} {elt : ED} {Q : ER → Prop} {env env1 : EnvD} {vs : List Val} (I : Nat → List Val → EnvD → Prop) (hit : it env = .ok (vs, env1)) (hno : noOwn env1 own = true) (hlen : vs.length ≤ sizeLine) (h0 : I 0 [] (wipeD env1 own))
    (hs : ∀ i (hi : i < vs.length) acc env, I i acc env → (lcStep g t elt vs[i] env).Is fun z => I (i + 1) (acc ++ z.1.toList) (wipeD z.2 own)) (he : ∀ acc env, I vs.length acc env → Q (.lst acc, true, backD env1 env own)) : (dLc own it g t elt env).Is Q := by
  unfold dLc
  rw [hit]
  simp only [res_ok_bind, hno, Bool.true_and, decide_eq_true hlen, if_true]
  exact Res.Is.bind (noX_is (lc_inv1 (Q := fun z => Q (.lst z.1, true, backD env1 z.2 own)) vs I [] _ h0 hs he)) fun z hz => hz
theorem lc_pure1 {own : List Nat} {g : GD} {t : TD} {elt : ED} {env0 : EnvD} (r : Val → Option Val) : ∀ (vs acc : List Val), (∀ v ∈ vs, ∃ e, lcStep g t elt v env0 = .ok (r v, e) ∧ wipeD e own = env0) → lcLoop own g t elt vs env0 acc = .ok (acc ++ vs.filterMap r, env0)
  | [], acc, h => by simp [lcLoop]
  | v :: vs, acc, h => by
    obtain ⟨e, h1, h2⟩ := h v (by simp)
    have ih := fun acc hh => lc_pure1 (own := own) (g := g) (t := t) (elt := elt) (env0 := env0) r vs acc hh
    unfold lcStep at h1
    unfold lcLoop
    cases q : g v env0 with
    | ok e1 =>
      rw [q] at h1
      simp only [res_ok_bind] at h1 ⊢
      cases q2 : t e1 with
      | ok z =>
        rw [q2] at h1
        simp only [res_ok_bind] at h1 ⊢
        cases q3 : z.1 with
        | true =>
          rw [q3] at h1
          simp only [if_true] at h1 ⊢
          cases q4 : elt z.2 with
          | ok y =>
            rw [q4] at h1
            simp only [res_ok_bind] at h1 ⊢
            cases h1' : r v with
            | none => rw [h1'] at h1; cases h1
            | some u =>
              rw [h1'] at h1
              injection h1 with h1
              injection h1 with ha hb
              injection ha with ha
              rw [hb, h2, ih _ fun w hw => h w (by simp [hw])]
              simp [h1', ha]
          | exc c p => rw [q4] at h1; cases h1
          | bad => rw [q4] at h1; cases h1
        | false =>
          rw [q3] at h1
          simp only [Bool.false_eq_true, if_false] at h1 ⊢
          injection h1 with h1
          injection h1 with ha hb
          rw [hb, h2, ih _ fun w hw => h w (by simp [hw])]
          simp [← ha]
      | exc c p => rw [q2] at h1; cases h1
      | bad => rw [q2] at h1; cases h1
    | exc c p => rw [q] at h1; cases h1
    | bad => rw [q] at h1; cases h1
/-- a comprehension that changes nothing -/
theorem lc_pure {own : List Nat} {it : ID} {g : GD} {t : TD} {elt : ED} {env env1 env0 : EnvD} {vs : List Val} (r : Val → Option Val) (hit : it env = .ok (vs, env1)) (hno : noOwn env1 own = true) (hlen : vs.length ≤ sizeLine) (hw : wipeD env1 own = env0)
    (h : ∀ v ∈ vs, ∃ e, lcStep g t elt v env0 = .ok (r v, e) ∧ wipeD e own = env0) (hb : backD env1 env0 own = env1) : dLc own it g t elt env = .ok (.lst (vs.filterMap r), true, env1) := by
  unfold dLc
  rw [hit]
  simp only [res_ok_bind, hno, Bool.true_and, decide_eq_true hlen, if_true]
  rw [hw, lc_pure1 r vs [] h]
  simp [noX, hb]

/-! ### data of one kind -/
class EV (α : Type) where
  enc : α → Val
  dep : Nat
  lay : ∀ a : α, (toD (enc a)).canLay0 = true
  dp : ∀ a : α, (toD (enc a)).depth ≤ dep
  eqv : ∀ a b : α, eqV (enc a) (enc b) = true ↔ a = b
class OV (α : Type) extends EV α where
  lt : α → α → Bool
  alk : ∀ a b : α, alike (toD (enc a)) (toD (enc b)) = true
  ltv : ∀ a b : α, ltV (enc a) (enc b) = lt a b
  nn : ∀ a : α, enc a ≠ .non
  irr : ∀ a : α, lt a a = false
  tr : ∀ a b c : α, lt a b = true → lt b c = true → lt a c = true
  tot : ∀ a b : α, lt a b = false → lt b a = false → a = b
open EV (enc)
section
variable {α β : Type}
theorem enc_inj [EV α] {a b : α} (h : enc a = enc b) : a = b := (EV.eqv a b).mp (by rw [h]; exact (EV.eqv b b).mpr rfl)
theorem lay_map [EV α] : ∀ xs : List α, PyData.canLayAll0 (toDs (xs.map enc)) = true
  | [] => by simp [toDs, PyData.canLayAll0]
  | a :: xs => by rw [List.map_cons, toDs, PyData.canLayAll0, EV.lay, lay_map xs]; rfl
theorem dp_map [EV α] : ∀ xs : List α, PyData.depthAll (toDs (xs.map enc)) ≤ EV.dep α
  | [] => by simp [toDs, PyData.depthAll]
  | a :: xs => by rw [List.map_cons, toDs, PyData.depthAll]; exact Nat.max_le.mpr ⟨EV.dp a, dp_map xs⟩
theorem eqv_map [EV α] : ∀ xs ys : List α, PyData.eqvAll (toDs (xs.map enc)) (toDs (ys.map enc)) = true ↔ xs = ys
  | [], [] => by simp [toDs, PyData.eqvAll]
  | [], _ :: _ => by simp [toDs, PyData.eqvAll]
  | _ :: _, [] => by simp [toDs, PyData.eqvAll]
  | a :: xs, b :: ys => by
    rw [List.map_cons, List.map_cons, toDs, toDs, PyData.eqvAll, Bool.and_eq_true, eqv_map xs ys]
    have := EV.eqv a b
    unfold eqV at this
    rw [this, List.cons.injEq]
instance : EV Int where
  enc := .int
  dep := 0
  lay := fun a => by simp [toD, PyData.canLay0]
  dp := fun a => by simp [toD, PyData.depth]
  eqv := fun a b => by simp [eqV, toD, PyData.eqv]
instance : OV Int where
  lt := fun a b => decide (a < b)
  alk := fun a b => by simp [EV.enc, toD, alike]
  ltv := fun a b => by simp [EV.enc, ltV, toD, dataLt_int]
  nn := fun a => by simp [EV.enc]
  irr := fun a => by simp
  tr := fun a b c h1 h2 => by simp at *; omega
  tot := fun a b h1 h2 => by simp at *; omega
instance : EV Nat where
  enc := fun n => .int (n : Int)
  dep := 0
  lay := fun a => by simp [toD, PyData.canLay0]
  dp := fun a => by simp [toD, PyData.depth]
  eqv := fun a b => by simp [eqV, toD, PyData.eqv]; omega
instance : OV Nat where
  lt := fun a b => decide (a < b)
  alk := fun a b => by simp [EV.enc, toD, alike]
  ltv := fun a b => by simp [EV.enc, ltV, toD, dataLt_int]
  nn := fun a => by simp [EV.enc]
  irr := fun a => by simp
  tr := fun a b c h1 h2 => by simp at *; omega
  tot := fun a b h1 h2 => by simp at *; omega
instance [EV α] : EV (List α) where
  enc := fun xs => .tup (xs.map enc)
  dep := EV.dep α + 1
  lay := fun xs => by rw [toD, PyData.canLay0]; exact lay_map xs
  dp := fun xs => by rw [toD, PyData.depth]; exact Nat.succ_le_succ (dp_map xs)
  eqv := fun xs ys => by unfold eqV; rw [toD, toD, PyData.eqv]; exact eqv_map xs ys
def lexLt' (lt : α → α → Bool) [DecidableEq α] : List α → List α → Bool
  | [], [] => false
  | [], _ :: _ => true
  | _ :: _, [] => false
  | a :: xs, b :: ys => if a = b then lexLt' lt xs ys else lt a b
theorem alk_map [OV α] : ∀ xs ys : List α, alikeAll (toDs (xs.map enc)) (toDs (ys.map enc)) = true
  | [], _ => by simp [toDs, alikeAll]
  | _ :: _, [] => by simp [toDs, alikeAll]
  | a :: xs, b :: ys => by rw [List.map_cons, List.map_cons, toDs, toDs, alikeAll, OV.alk, alk_map xs ys]; rfl
theorem eqV_of [EV α] [DecidableEq α] (a b : α) : eqV (enc a) (enc b) = decide (a = b) := by
  have := EV.eqv a b
  by_cases h : a = b
  · rw [this.mpr h, decide_eq_true h]
  · cases e : eqV (enc a) (enc b) with
    | true => exact absurd (this.mp e) h
    | false => rw [decide_eq_false h]
theorem ltv_map [OV α] [DecidableEq α] : ∀ xs ys : List α, PyProof.Rows.lexLt PyProof.Rows.itemOrd (keyToksAll (toDs (xs.map enc))) (keyToksAll (toDs (ys.map enc))) = lexLt' OV.lt xs ys
  | [], [] => by simp only [List.map_nil, toDs, keyToksAll, lexLt']; rfl
  | [], b :: ys => by
    simp only [List.map_nil, List.map_cons, toDs, keyToksAll, lexLt']
    rw [PyProof.Rows.lex_diff (O := PyProof.Rows.itemOrd) (by simp)]; rfl
  | a :: xs, [] => by
    simp only [List.map_nil, List.map_cons, toDs, keyToksAll, lexLt']
    rw [PyProof.Rows.lex_diff (O := PyProof.Rows.itemOrd) (by simp)]; rfl
  | a :: xs, b :: ys => by
    rw [List.map_cons, List.map_cons, toDs, toDs]
    have al := OV.alk a b
    have eq := eqV_of a b
    unfold eqV at eq
    unfold lexLt'
    by_cases h : a = b
    · rw [if_pos h, dataLt_all_yes al (by rw [eq]; exact decide_eq_true h), ltv_map xs ys]
    · rw [if_neg h, dataLt_all_no al (by rw [eq]; exact decide_eq_false h)]
      exact OV.ltv a b
instance [OV α] [DecidableEq α] : OV (List α) where
  lt := lexLt' OV.lt
  alk := fun xs ys => by simp only [EV.enc]; rw [toD, toD, alike]; exact alk_map xs ys
  ltv := fun xs ys => by simp only [EV.enc]; unfold ltV; rw [toD, toD, dataLt_tuple]; exact ltv_map xs ys
  nn := fun xs => by simp [EV.enc]
  irr := fun xs => by
    induction xs with
    | nil => rfl
    | cons a xs ih => simp [lexLt', ih]
  tr := fun xs => by
    induction xs with
    | nil =>
      intro ys zs h1 h2
      cases ys with
      | nil => simp [lexLt'] at h1
      | cons b ys => cases zs with
        | nil => simp [lexLt'] at h2
        | cons c zs => rfl
    | cons a xs ih =>
      intro ys zs h1 h2
      cases ys with
      | nil => simp [lexLt'] at h1
      | cons b ys => cases zs with
        | nil => simp [lexLt'] at h2
        | cons c zs =>
          unfold lexLt' at h1 h2 ⊢
          by_cases e1 : a = b
          · subst e1
            by_cases e2 : a = c
            · subst e2
              rw [if_pos rfl] at h1 h2 ⊢
              exact ih _ _ h1 h2
            · rw [if_pos rfl] at h1
              rw [if_neg e2] at h2 ⊢
              exact h2
          · rw [if_neg e1] at h1
            by_cases e2 : b = c
            · subst e2
              rw [if_neg e1]; exact h1
            · rw [if_neg e2] at h2
              have h3 := OV.tr a b c h1 h2
              by_cases e3 : a = c
              · subst e3; rw [OV.irr] at h3; cases h3
              · rw [if_neg e3]; exact h3
  tot := fun xs => by
    induction xs with
    | nil =>
      intro ys h1 h2
      cases ys with
      | nil => rfl
      | cons b ys => simp [lexLt'] at h1
    | cons a xs ih =>
      intro ys h1 h2
      cases ys with
      | nil => simp [lexLt'] at h2
      | cons b ys =>
        unfold lexLt' at h1 h2
        by_cases e : a = b
        · subst e
          rw [if_pos rfl] at h1 h2
          rw [ih ys h1 h2]
        · rw [if_neg e] at h1
          rw [if_neg (Ne.symm e)] at h2
          exact absurd (OV.tot a b h1 h2) e
instance [EV α] [EV β] : EV (α × β) where
  enc := fun p => .tup [enc p.1, enc p.2]
  dep := max (EV.dep α) (EV.dep β) + 1
  lay := fun p => by simp only [toD, toDs, PyData.canLay0, PyData.canLayAll0, EV.lay]; rfl
  dp := fun p => by
    simp only [toD, toDs, PyData.depth, PyData.depthAll]
    have h1 := EV.dp p.1
    have h2 := EV.dp p.2
    omega
  eqv := fun p r => by
    have h1 := EV.eqv p.1 r.1
    have h2 := EV.eqv p.2 r.2
    unfold eqV at h1 h2 ⊢
    simp only [toD, toDs, PyData.eqv, PyData.eqvAll, Bool.and_true, Bool.and_eq_true]
    rw [h1, h2, Prod.ext_iff]
instance [OV α] [OV β] [DecidableEq α] [DecidableEq β] : OV (α × β) where
  lt := fun p r => if p.1 = r.1 then OV.lt p.2 r.2 else OV.lt p.1 r.1
  alk := fun p r => by simp only [EV.enc, toD, toDs, alike, alikeAll, OV.alk]; rfl
  ltv := fun p r => by
    simp only [EV.enc]
    unfold ltV
    simp only [toD, toDs]
    rw [dataLt_tuple]
    have e1 := eqV_of p.1 r.1
    have e2 := eqV_of p.2 r.2
    unfold eqV at e1 e2
    by_cases h : p.1 = r.1
    · rw [if_pos h, dataLt_all_yes (OV.alk _ _) (by rw [e1]; exact decide_eq_true h)]
      by_cases h2 : p.2 = r.2
      · rw [dataLt_all_yes (OV.alk _ _) (by rw [e2]; exact decide_eq_true h2), h2, OV.irr]
        rfl
      · rw [dataLt_all_no (OV.alk _ _) (by rw [e2]; exact decide_eq_false h2)]
        exact OV.ltv _ _
    · rw [if_neg h, dataLt_all_no (OV.alk _ _) (by rw [e1]; exact decide_eq_false h)]
      exact OV.ltv _ _
  nn := fun p => by simp [EV.enc]
  irr := fun p => by rw [if_pos rfl]; exact OV.irr _
  tr := fun p r s h1 h2 => by
    by_cases e1 : p.1 = r.1
    · rw [if_pos e1] at h1
      by_cases e2 : r.1 = s.1
      · rw [if_pos e2] at h2
        rw [if_pos (e1.trans e2)]; exact OV.tr _ _ _ h1 h2
      · rw [if_neg e2] at h2
        rw [if_neg (by rw [e1]; exact e2), e1]; exact h2
    · rw [if_neg e1] at h1
      by_cases e2 : r.1 = s.1
      · rw [if_neg (by rw [← e2]; exact e1), ← e2]; exact h1
      · rw [if_neg e2] at h2
        have h3 := OV.tr _ _ _ h1 h2
        by_cases e3 : p.1 = s.1
        · rw [e3, OV.irr] at h3; cases h3
        · rw [if_neg e3]; exact h3
  tot := fun p r h1 h2 => by
    by_cases e : p.1 = r.1
    · rw [if_pos e] at h1
      rw [if_pos e.symm] at h2
      exact Prod.ext e (OV.tot _ _ h1 h2)
    · rw [if_neg e] at h1
      rw [if_neg (Ne.symm e)] at h2
      exact absurd (OV.tot _ _ h1 h2) e
def encO [EV α] : Option α → Val
  | none => .non
  | some a => enc a
instance [OV α] : EV (Option α) where
  enc := encO
  dep := EV.dep α
  lay := fun a => by cases a with
    | none => simp [encO, toD, PyData.canLay0]
    | some a => exact EV.lay a
  dp := fun a => by cases a with
    | none => simp [encO, toD, PyData.depth]
    | some a => exact EV.dp a
  eqv := fun a b => by
    have no : ∀ v : Val, v ≠ .non → (toD v).canLay0 = true → PyData.eqv .none (toD v) = false ∧ PyData.eqv (toD v) .none = false := fun v nv lv => by
      cases v <;> simp_all [toD, PyData.eqv, PyData.canLay0]
    cases a with
    | none =>
      cases b with
      | none => simp [encO, eqV, toD, PyData.eqv]
      | some b =>
        have := (no (enc b) (OV.nn b) (EV.lay b)).1
        simp only [encO, eqV, reduceCtorEq, iff_false]
        rw [toD, this]; simp
    | some a =>
      cases b with
      | none =>
        have := (no (enc a) (OV.nn a) (EV.lay a)).2
        simp only [encO, eqV, reduceCtorEq, iff_false]
        rw [toD.eq_1, this]; simp
      | some b =>
        rw [Option.some.injEq]
        exact EV.eqv a b
end
end PV

namespace PV
open PySem PySem.Spec PyProof.Rows L2
open PySem.W (dataLt alike alikeAll minD maxD keyToksAll dataLt_all_yes dataLt_all_no dataLt_tuple dataLt_int dataLt_list)
open EV (enc)
@[simp] theorem dVar_a (i : Nat)  (env : EnvD) : dVar i env = ((match env[i]? with
  | some (.frz v) => .ok (v, false, env)
  | some (.own v) => .ok (v, false, env.set i (.frz v))
  | _ => .bad) : Res ER) := rfl
@[simp] theorem dC_a (v : Val)  (env : EnvD) : dC v env = ((.ok (v, false, env)) : Res ER) := rfl
@[simp] theorem dIxS_a (i : Nat) (db : ED)  (env : EnvD) : dIxS i db env = ((match env[i]? with
  | none | some .emp => .bad
  | _ => db env >>= fun b => match b.2.2[i]? with
    | some (.frz v) | some (.own v) => oIx v b.1 >>= fun z => .ok (z.1, z.2, b.2.2)
    | _ => .bad) : Res ER) := rfl
@[simp] theorem dTB_a (d : ED)  (env : EnvD) : dTB d env = ((d env >>= fun a => match a.1 with
  | .bl b => .ok (b, a.2.2)
  | _ => .bad) : Res (Bool × EnvD)) := rfl
@[simp] theorem dTru_a (d : ED)  (env : EnvD) : dTru d env = ((d env >>= fun a => match truV a.1 with
  | some b => .ok (b, a.2.2)
  | none => .bad) : Res (Bool × EnvD)) := rfl
@[simp] theorem dTruS_a (i : Nat)  (env : EnvD) : dTruS i env = ((match env[i]? with
  | some (.frz v) | some (.own v) => (match truV v with
    | some b => .ok (b, env)
    | none => .bad)
  | _ => .bad) : Res (Bool × EnvD)) := rfl
@[simp] theorem dAndT_a (d e : TD)  (env : EnvD) : dAndT d e env = ((d env >>= fun r => if r.1 then e r.2 else .ok (false, r.2)) : Res (Bool × EnvD)) := rfl
@[simp] theorem dOrT_a (d e : TD)  (env : EnvD) : dOrT d e env = ((d env >>= fun r => if r.1 then .ok (true, r.2) else e r.2) : Res (Bool × EnvD)) := rfl
@[simp] theorem dNotT_a (d : TD)  (env : EnvD) : dNotT d env = ((d env >>= fun r => .ok (!r.1, r.2)) : Res (Bool × EnvD)) := rfl
@[simp] theorem dIf_a (t : TD) (d e : ED)  (env : EnvD) : dIf t d e env = ((t env >>= fun r => if r.1 then d r.2 else e r.2) : Res ER) := rfl
@[simp] theorem dAndV_a (d e : ED)  (env : EnvD) : dAndV d e env = ((d env >>= fun a => match a.1 with
  | .bl true => e a.2.2
  | .bl false => .ok (.bl false, false, a.2.2)
  | _ => .bad) : Res ER) := rfl
@[simp] theorem dOrV_a (d e : ED)  (env : EnvD) : dOrV d e env = ((d env >>= fun a => match a.1 with
  | .bl false => e a.2.2
  | .bl true => .ok (.bl true, false, a.2.2)
  | _ => .bad) : Res ER) := rfl
@[simp] theorem dTup_a (ds : List ED)  (env : EnvD) : dTup ds env = ((dList ds env >>= fun r => .ok (.tup r.1, false, r.2)) : Res ER) := rfl
@[simp] theorem dLst_a (ds : List ED)  (env : EnvD) : dLst ds env = ((dList ds env >>= fun r => .ok (.lst r.1, true, r.2)) : Res ER) := rfl
@[simp] theorem sSeq_a (d e : SD)  (env : EnvD) : sSeq d e env = ((d env >>= fun r => match r with
  | .nx env => e env
  | r => .ok r) : Res SR) := rfl
@[simp] theorem sExpr_a (d : ED)  (env : EnvD) : sExpr d env = ((d env >>= fun a => .ok (.nx a.2.2)) : Res SR) := rfl
@[simp] theorem sRet_a (d : ED)  (env : EnvD) : sRet d env = ((d env >>= fun a => .ok (.ret a.1 a.2.1 a.2.2)) : Res SR) := rfl
@[simp] theorem sRetF_a (d : ED)  (env : EnvD) : sRetF d env = ((d env >>= fun a => .ok (.ret a.1 false a.2.2)) : Res SR) := rfl
@[simp] theorem sRetN_a  (env : EnvD) : sRetN  env = ((.ok (.ret .non false env)) : Res SR) := rfl
@[simp] theorem sIf_a (t : TD) (d e : SD)  (env : EnvD) : sIf t d e env = ((t env >>= fun r => if r.1 then d r.2 else e r.2) : Res SR) := rfl
@[simp] theorem sBrk_a  (env : EnvD) : sBrk  env = ((.ok (.brk env)) : Res SR) := rfl
@[simp] theorem sCnt_a  (env : EnvD) : sCnt  env = ((.ok (.cnt env)) : Res SR) := rfl
@[simp] theorem sNil_a  (env : EnvD) : sNil  env = ((.ok (.nx env)) : Res SR) := rfl
@[simp] theorem sAsg_a (d : ED) (g : GD)  (env : EnvD) : sAsg d g env = ((d env >>= fun a => g a.1 a.2.2 >>= fun env => .ok (.nx env)) : Res SR) := rfl
@[simp] theorem gN_a (i : Nat)  (v : Val) (env : EnvD) : gN i v env = ((.ok (env.set i (.frz v))) : Res EnvD) := rfl
@[simp] theorem gT_a (n : Nat) (ds : GDs)  (v : Val) (env : EnvD) : gT n ds v env = ((match v with
  | .tup vs => if vs.length = n then ds vs env else .bad
  | _ => .bad) : Res EnvD) := rfl
@[simp] theorem gsCons_a (d : GD) (ds : GDs)  (vs : List Val) (env : EnvD) : gsCons d ds vs env = ((match vs with
  | v :: vs => d v env >>= fun env => ds vs env
  | [] => .bad) : Res EnvD) := rfl
@[simp] theorem gsNil_a  (vs : List Val) (env : EnvD) : gsNil  vs env = ((match vs with
  | [] => .ok env
  | _ => .bad) : Res EnvD) := rfl
@[simp] theorem sOwn_a (d : ED) (i : Nat)  (env : EnvD) : sOwn d i env = ((d env >>= fun a => .ok (.nx (a.2.2.set i (if a.2.1 then .own a.1 else .frz a.1)))) : Res SR) := rfl
@[simp] theorem sSet_a (i : Nat) (di dv : ED)  (env : EnvD) : sSet i di dv env = ((dv env >>= fun v => match v.2.2[i]? with
  | some (.own _) => di v.2.2 >>= fun k => (match k.2.2[i]? with
    | some (.own c) => (match setV c k.1 v.1 with
      | some c => .ok (.nx (k.2.2.set i (.own c)))
      | none => .bad)
    | _ => .bad)
  | _ => .bad) : Res SR) := rfl
@[simp] theorem sAug_a (i : Nat) (g : Int → Int → Int) (d : ED)  (env : EnvD) : sAug i g d env = ((match env[i]? with
  | some (.frz v) => d env >>= fun w => (match oAug g v w.1 with
    | some u => .ok (.nx (w.2.2.set i (.frz u)))
    | none => .bad)
  | _ => .bad) : Res SR) := rfl
@[simp] theorem dApp_a (i : Nat) (d : ED)  (env : EnvD) : dApp i d env = ((match env[i]? with
  | some (.own (.lst _)) => d env >>= fun a => (match a.2.2[i]? with
    | some (.own (.lst vs)) => if vs.length < sizeLine then .ok (.non, false, a.2.2.set i (.own (.lst (vs ++ [a.1])))) else .bad
    | _ => .bad)
  | _ => .bad) : Res ER) := rfl
@[simp] theorem dExt_a (i : Nat) (d : ED)  (env : EnvD) : dExt i d env = ((match env[i]? with
  | some (.own (.lst _)) => d env >>= fun a => (match a.2.2[i]?, a.1 with
    | some (.own (.lst vs)), .lst ws => if vs.length + ws.length ≤ sizeLine then .ok (.non, false, a.2.2.set i (.own (.lst (vs ++ ws)))) else .bad
    | _, _ => .bad)
  | _ => .bad) : Res ER) := rfl
@[simp] theorem dPop_a (i : Nat)  (env : EnvD) : dPop i env = ((match env[i]? with
  | some (.own (.lst vs)) => (match vs.getLast? with
    | some v => .ok (v, false, env.set i (.own (.lst vs.dropLast)))
    | none => .bad)
  | _ => .bad) : Res ER) := rfl
@[simp] theorem sPar_a (i j : Nat) (ds : List ED)  (env : EnvD) : sPar i j ds env = ((dList ds env >>= fun r => match r.1 with
  | [v, w] => .ok (.nx ((r.2.set i (.frz v)).set j (.frz w)))
  | _ => .bad) : Res SR) := rfl
@[simp] theorem sPar3_a (i j l : Nat) (ds : List ED)  (env : EnvD) : sPar3 i j l ds env = ((dList ds env >>= fun r => match r.1 with
  | [v, w, u] => .ok (.nx (((r.2.set i (.frz v)).set j (.frz w)).set l (.frz u)))
  | _ => .bad) : Res SR) := rfl
@[simp] theorem dSl_a (da : ED) (lo hi : OD)  (env : EnvD) : dSl da lo hi env = ((da env >>= fun a => lo a.2.2 >>= fun l => hi l.2 >>= fun h => oSl a.1 l.1 h.1 >>= fun z => .ok (z.1, z.2, h.2)) : Res ER) := rfl
@[simp] theorem pSome_a (d : ED)  (env : EnvD) : pSome d env = ((d env >>= fun a => match a.1 with
  | .int i => .ok (some i, a.2.2)
  | _ => .bad) : Res (Option Int × EnvD)) := rfl
@[simp] theorem pNone_a  (env : EnvD) : pNone  env = ((.ok (none, env)) : Res (Option Int × EnvD)) := rfl
@[simp] theorem iVal_a (d : ED)  (env : EnvD) : iVal d env = ((d env >>= fun a => match seqV a.1 with
  | some vs => .ok (vs, a.2.2)
  | none => .bad) : Res (List Val × EnvD)) := rfl
@[simp] theorem iRng_a (ds : List ED)  (env : EnvD) : iRng ds env = ((dList ds env >>= fun r => match rangeV r.1 with
  | some vs => .ok (vs, r.2)
  | none => .bad) : Res (List Val × EnvD)) := rfl
@[simp] theorem dYes_a  (env : EnvD) : dYes  env = ((.ok (true, env)) : Res (Bool × EnvD)) := rfl
@[simp] theorem sFor_a (it : ID) (g : GD) (b : SD)  (env : EnvD) : sFor it g b env = ((it env >>= fun r => forLoop g b r.1 r.2) : Res SR) := rfl
@[simp] theorem dBin_a (f : Val → Val → Res (Val × Bool)) (da db : ED) (env : EnvD) : dBin f da db env = (da env >>= fun a => db a.2.2 >>= fun b => f a.1 b.1 >>= fun z => .ok (z.1, z.2, b.2.2)) := rfl
@[simp] theorem dUn_a (f : Val → Res (Val × Bool)) (da : ED) (env : EnvD) : dUn f da env = (da env >>= fun a => f a.1 >>= fun z => .ok (z.1, z.2, a.2.2)) := rfl
@[simp] theorem dRS_a (f : Val → Val → Res (Val × Bool)) (da : ED) (i : Nat) (env : EnvD) : dRS f da i env = (da env >>= fun a => match a.2.2[i]? with
  | some (.frz v) | some (.own v) => f a.1 v >>= fun z => .ok (z.1, z.2, a.2.2)
  | _ => .bad) := rfl
@[simp] theorem dChain_a (f f' : Val → Val → Res (Val × Bool)) (da db dc : ED) (env : EnvD) : dChain f f' da db dc env = (da env >>= fun a => db a.2.2 >>= fun b => f a.1 b.1 >>= fun z => match z.1 with
  | .bl true => dc b.2.2 >>= fun c => f' b.1 c.1 >>= fun z => .ok (z.1, z.2, c.2.2)
  | .bl false => .ok (.bl false, false, b.2.2)
  | _ => .bad) := rfl
@[simp] theorem dCB_a (f : List Val → Res (Val × Bool)) (ds : List ED) (env : EnvD) : dCB f ds env = (dList ds env >>= fun r => f r.1 >>= fun z => .ok (z.1, z.2, r.2)) := rfl
@[simp] theorem dCBS_a (f : Val → Res (Val × Bool)) (i : Nat) (env : EnvD) : dCBS f i env = (match env[i]? with
  | some (.frz v) | some (.own v) => f v >>= fun z => .ok (z.1, z.2, env)
  | _ => .bad) := rfl
@[simp] theorem iOf_a (f : List Val → Option (List Val)) (ds : List ED) (env : EnvD) : iOf f ds env = (dList ds env >>= fun r => match f r.1 with
  | some vs => .ok (vs, r.2)
  | none => .bad) := rfl
@[simp] theorem sWhile_a (n : Nat) (t : TD) (b : SD) (env : EnvD) : sWhile n t b env = whileLoop t b n env := rfl
@[simp] theorem lcStep_a (g : GD) (t : TD) (elt : ED) (v : Val) (env : EnvD) : lcStep g t elt v env = (g v env >>= fun e1 => t e1 >>= fun r => if r.1 then (elt r.2 >>= fun y => .ok (some y.1, y.2.2)) else .ok (none, r.2)) := rfl
@[simp] theorem dList_nil (env : EnvD) : dList [] env = .ok ([], env) := rfl
@[simp] theorem dList_cons (d : ED) (ds : List ED) (env : EnvD) : dList (d :: ds) env = (d env >>= fun a => dList ds a.2.2 >>= fun r => .ok (a.1 :: r.1, r.2)) := rfl
@[simp] theorem wipeD_nil (env : EnvD) : wipeD env [] = env := rfl
@[simp] theorem wipeD_cons (env : EnvD) (v : Nat) (vs : List Nat) : wipeD env (v :: vs) = (wipeD env vs).set v .emp := rfl
@[simp] theorem backD_nil (e1 e2 : EnvD) : backD e1 e2 [] = e2 := rfl
@[simp] theorem backD_cons (e1 e2 : EnvD) (v : Nat) (vs : List Nat) : backD e1 e2 (v :: vs) = (backD e1 e2 vs).set v (e1[v]?.getD .emp) := rfl
@[simp] theorem noOwn_nil (env : EnvD) : noOwn env [] = true := rfl
@[simp] theorem noOwn_cons (env : EnvD) (v : Nat) (vs : List Nat) : noOwn env (v :: vs) = ((match env[v]? with
  | some (.own _) => false
  | _ => true) && noOwn env vs) := rfl
@[simp] theorem env0_a (n : Nat) (ws : List Val) : env0 n ws = ws.map PV.Slot.frz ++ List.replicate (n - ws.length) .emp := rfl
@[simp] theorem env0H_a (n : Nat) (h : Val) (ws : List Val) : env0H n h ws = .own h :: (ws.map PV.Slot.frz ++ List.replicate (n - (ws.length + 1)) .emp) := rfl
@[simp] theorem on1_a (f : Val → Res (Val × Bool)) (v : Val) : on1 f [v] = f v := rfl
@[simp] theorem on2_a (f : Val → Val → Res (Val × Bool)) (v w : Val) : on2 f [v, w] = f v w := rfl
/-! ### values of one kind -/
section
variable {α β : Type}
@[simp] theorem enc_int (i : Int) : enc i = Val.int i := rfl
@[simp] theorem enc_nat (i : Nat) : enc i = Val.int (i : Int) := rfl
@[simp] theorem enc_list [EV α] (xs : List α) : enc xs = Val.tup (xs.map enc) := rfl
@[simp] theorem enc_pair [EV α] [EV β] (p : α × β) : enc p = Val.tup [enc p.1, enc p.2] := rfl
@[simp] theorem enc_none [OV α] : enc (none : Option α) = Val.non := rfl
@[simp] theorem enc_some [OV α] (a : α) : enc (some a) = enc a := rfl
theorem enc_fun : (enc : Int → Val) = Val.int := rfl
theorem map_enc_fun : List.map Val.int = List.map (enc : Int → Val) := rfl
/-! ### operators -/
@[simp] theorem oAdd_ii (i j : Int) : oAdd (.int i) (.int j) = .ok (.int (i + j), false) := rfl
@[simp] theorem oAdd_ib (i : Int) (k : Bool) : oAdd (.int i) (.bl k) = .ok (.int (i + b2 k), false) := rfl
theorem oAdd_tt (xs ys : List Val) (h : xs.length + ys.length ≤ sizeLine) : oAdd (.tup xs) (.tup ys) = .ok (.tup (xs ++ ys), false) := if_pos h
theorem oAdd_ll (xs ys : List Val) (h : xs.length + ys.length ≤ sizeLine) : oAdd (.lst xs) (.lst ys) = .ok (.lst (xs ++ ys), true) := if_pos h
@[simp] theorem oSub_ii (i j : Int) : oSub (.int i) (.int j) = .ok (.int (i - j), false) := rfl
theorem oMul_ii (i j : Int) (h : mulOk i j = true) : oMul (.int i) (.int j) = .ok (.int (i * j), false) := if_pos h
theorem oMul_li (xs : List Val) (n : Nat) (h : xs.length * n ≤ sizeLine) (h2 : n ≤ sizeLine) : oMul (.lst xs) (.int n) = .ok (.lst (List.replicate n xs).flatten, true) := by
  have q : (n : Int).natAbs < 2 ^ 63 ∧ xs.length * (n : Int).toNat ≤ sizeLine := ⟨by rw [show sizeLine = 16777216 from rfl] at h2; omega, by rw [Int.toNat_natCast]; exact h⟩
  unfold oMul
  simp only
  rw [if_pos q, Int.toNat_natCast]
theorem oMul_l1 (x : Val) (n : Nat) (h : n ≤ sizeLine) : oMul (.lst [x]) (.int n) = .ok (.lst (List.replicate n x), true) := by
  rw [oMul_li _ _ (by simpa using h) h]
  have : ∀ n, (List.replicate n [x]).flatten = List.replicate n x := fun n => by
    induction n with
    | zero => rfl
    | succ n ih => rw [List.replicate_succ, List.flatten_cons, ih]; rfl
  rw [this]
theorem oMul_t1 (x : Val) (n : Nat) (h : n ≤ 1000) : oMul (.tup [x]) (.int n) = .ok (.tup (List.replicate n x), false) := by
  have : ∀ n, (List.replicate n [x]).flatten = List.replicate n x := fun n => by
    induction n with
    | zero => rfl
    | succ n ih => rw [List.replicate_succ, List.flatten_cons, ih]; rfl
  unfold oMul
  simp only
  rw [if_pos ⟨by omega, by simp⟩, Int.toNat_natCast, this]
theorem oDiv_ii (i j : Int) (h : 0 < j) (h2 : j < 1073741824) : oDiv (.int i) (.int j) = .ok (.int (i / j), false) := if_pos ⟨h, by omega⟩
theorem oMod_ii (i j : Int) (h : 0 < j) : oMod (.int i) (.int j) = .ok (.int (i % j), false) := if_pos h
@[simp] theorem oNeg_i (i : Int) : oNeg (.int i) = .ok (.int (-i), false) := rfl
@[simp] theorem oPow_10_18 : oPow (.int 10) (.int 18) = .ok (.int 1000000000000000000, false) := by rfl
@[simp] theorem oPow_10_9 : oPow (.int 10) (.int 9) = .ok (.int 1000000000, false) := by rfl
@[simp] theorem oNot_b (b : Bool) : oNot (.bl b) = .ok (.bl (!b), false) := rfl
/-! ### comparisons -/
theorem ok_enc [EV α] (a : α) (h : EV.dep α ≤ 64) : okV (enc a) = true := by
  unfold okV SeqAt.shaped
  rw [EV.lay, Bool.true_and]
  exact decide_eq_true (Nat.le_trans (EV.dp a) h)
theorem oEq_e [EV α] [DecidableEq α] (a b : α) (h : EV.dep α ≤ 64) : oEq (enc a) (enc b) = .ok (.bl (decide (a = b)), false) := by
  unfold oEq; rw [ok_enc a h, ok_enc b h, eqV_of]; rfl
theorem oNe_e [EV α] [DecidableEq α] (a b : α) (h : EV.dep α ≤ 64) : oNe (enc a) (enc b) = .ok (.bl (!decide (a = b)), false) := by
  unfold oNe; rw [ok_enc a h, ok_enc b h, eqV_of]; rfl
theorem cmp_enc [OV α] (a b : α) (h : EV.dep α ≤ 64) : cmpOk (enc a) (enc b) = true := by
  unfold cmpOk
  rw [ok_enc a h, ok_enc b h, OV.alk]
  have := OV.nn a
  cases e : enc a <;> simp_all
@[simp] theorem oEq_ii (i j : Int) : oEq (.int i) (.int j) = .ok (.bl (decide (i = j)), false) := oEq_e i j (by decide)
@[simp] theorem oNe_ii (i j : Int) : oNe (.int i) (.int j) = .ok (.bl (!decide (i = j)), false) := oNe_e i j (by decide)
@[simp] theorem oLt_ii (i j : Int) : oLt (.int i) (.int j) = .ok (.bl (decide (i < j)), false) := by
  have h := cmp_enc i j (by decide)
  have e : ltV (.int i) (.int j) = decide (i < j) := OV.ltv i j
  unfold oLt; rw [show cmpOk (.int i) (.int j) = true from h, e]; rfl
@[simp] theorem oGt_ii (i j : Int) : oGt (.int i) (.int j) = .ok (.bl (decide (j < i)), false) := by
  have h := cmp_enc i j (by decide)
  have e : ltV (.int j) (.int i) = decide (j < i) := OV.ltv j i
  unfold oGt; rw [show cmpOk (.int i) (.int j) = true from h, e]; rfl
@[simp] theorem oLe_ii (i j : Int) : oLe (.int i) (.int j) = .ok (.bl (decide (i ≤ j)), false) := by
  have h := cmp_enc i j (by decide)
  have e : ltV (.int j) (.int i) = decide (j < i) := OV.ltv j i
  unfold oLe; rw [show cmpOk (.int i) (.int j) = true from h, e]
  simp only [if_true]
  congr 3
  by_cases h : i ≤ j
  · rw [decide_eq_true h, decide_eq_false (by omega)]; rfl
  · rw [decide_eq_false h, decide_eq_true (by omega)]; rfl
@[simp] theorem oGe_ii (i j : Int) : oGe (.int i) (.int j) = .ok (.bl (decide (j ≤ i)), false) := by
  have h := cmp_enc i j (by decide)
  have e : ltV (.int i) (.int j) = decide (i < j) := OV.ltv i j
  unfold oGe; rw [show cmpOk (.int i) (.int j) = true from h, e]
  simp only [if_true]
  congr 3
  by_cases h : j ≤ i
  · rw [decide_eq_true h, decide_eq_false (by omega)]; rfl
  · rw [decide_eq_false h, decide_eq_true (by omega)]; rfl
@[simp] theorem oEq_bb (a b : Bool) : oEq (.bl a) (.bl b) = .ok (.bl (decide (a = b)), false) := by cases a <;> cases b <;> rfl
@[simp] theorem oNe_bb (a b : Bool) : oNe (.bl a) (.bl b) = .ok (.bl (!decide (a = b)), false) := by cases a <;> cases b <;> rfl
theorem oEq_tt [EV α] [DecidableEq α] (xs ys : List α) (h : EV.dep (List α) ≤ 64) : oEq (.tup (xs.map enc)) (.tup (ys.map enc)) = .ok (.bl (decide (xs = ys)), false) := oEq_e xs ys h
theorem oNe_tt [EV α] [DecidableEq α] (xs ys : List α) (h : EV.dep (List α) ≤ 64) : oNe (.tup (xs.map enc)) (.tup (ys.map enc)) = .ok (.bl (!decide (xs = ys)), false) := oNe_e xs ys h
theorem ok_lst [EV α] (xs : List α) (h : EV.dep (List α) ≤ 64) : okV (.lst (xs.map enc)) = true := by
  have := ok_enc xs h
  unfold okV SeqAt.shaped at this ⊢
  simpa [toD, PyData.canLay0, PyData.depth] using this
theorem eqV_lst [EV α] [DecidableEq α] (xs ys : List α) : eqV (.lst (xs.map enc)) (.lst (ys.map enc)) = decide (xs = ys) := by
  rw [← eqV_of xs ys]
  simp [eqV, toD, PyData.eqv]
theorem oEq_ll [EV α] [DecidableEq α] (xs ys : List α) (h : EV.dep (List α) ≤ 64) : oEq (.lst (xs.map enc)) (.lst (ys.map enc)) = .ok (.bl (decide (xs = ys)), false) := by
  unfold oEq; rw [ok_lst xs h, ok_lst ys h, eqV_lst]; rfl
theorem oNe_ll [EV α] [DecidableEq α] (xs ys : List α) (h : EV.dep (List α) ≤ 64) : oNe (.lst (xs.map enc)) (.lst (ys.map enc)) = .ok (.bl (!decide (xs = ys)), false) := by
  unfold oNe; rw [ok_lst xs h, ok_lst ys h, eqV_lst]; rfl
theorem oEq_lnil [EV α] (xs : List α) (h : EV.dep (List α) ≤ 64) : oEq (.lst (xs.map enc)) (.lst []) = .ok (.bl xs.isEmpty, false) := by
  unfold oEq; rw [ok_lst xs h]
  cases xs <;> simp [okV, SeqAt.shaped, toD, toDs, PyData.canLay0, PyData.canLayAll0, PyData.depth, PyData.depthAll, eqV, PyData.eqv, PyData.eqvAll]
theorem oNe_lnil [EV α] (xs : List α) (h : EV.dep (List α) ≤ 64) : oNe (.lst (xs.map enc)) (.lst []) = .ok (.bl (!xs.isEmpty), false) := by
  unfold oNe; rw [ok_lst xs h]
  cases xs <;> simp [okV, SeqAt.shaped, toD, toDs, PyData.canLay0, PyData.canLayAll0, PyData.depth, PyData.depthAll, eqV, PyData.eqv, PyData.eqvAll]
@[simp] theorem oIs_n (v : Val) : oIs v .non = .ok (.bl (isNon v), false) := by cases v <;> rfl
@[simp] theorem oIsNot_n (v : Val) : oIsNot v .non = .ok (.bl (!isNon v), false) := by cases v <;> rfl
@[simp] theorem oIs_bb (a b : Bool) : oIs (.bl a) (.bl b) = .ok (.bl (decide (a = b)), false) := rfl
@[simp] theorem oIsNot_bb (a b : Bool) : oIsNot (.bl a) (.bl b) = .ok (.bl (!decide (a = b)), false) := rfl
theorem isNon_enc [OV α] (a : α) : isNon (enc a) = false := by
  have := OV.nn a
  cases e : enc a <;> simp_all [isNon]
@[simp] theorem isNon_non : isNon .non = true := rfl
@[simp] theorem isNon_int (i : Int) : isNon (.int i) = false := rfl
@[simp] theorem isNon_bl (i : Bool) : isNon (.bl i) = false := rfl
@[simp] theorem isNon_tup (vs : List Val) : isNon (.tup vs) = false := rfl
@[simp] theorem isNon_lst (vs : List Val) : isNon (.lst vs) = false := rfl
@[simp] theorem isNon_str (vs : Str) : isNon (.str vs) = false := rfl
/-! ### truth -/
@[simp] theorem truV_b (b : Bool) : truV (.bl b) = some b := rfl
@[simp] theorem truV_i (i : Int) : truV (.int i) = some (i != 0) := rfl
@[simp] theorem truV_n : truV .non = some false := rfl
@[simp] theorem truV_t (vs : List Val) : truV (.tup vs) = some (!vs.isEmpty) := rfl
@[simp] theorem truV_l (vs : List Val) : truV (.lst vs) = some (!vs.isEmpty) := rfl
/-! ### built-ins -/
@[simp] theorem oLen_t (vs : List Val) : oLen (.tup vs) = .ok (.int vs.length, false) := rfl
@[simp] theorem oLen_l (vs : List Val) : oLen (.lst vs) = .ok (.int vs.length, false) := rfl
@[simp] theorem oInt_i (i : Int) : oInt (.int i) = .ok (.int i, false) := rfl
@[simp] theorem oInt_b (k : Bool) : oInt (.bl k) = .ok (.int (b2 k), false) := rfl
@[simp] theorem oAbs_i (i : Int) : oAbs (.int i) = .ok (.int (if i < 0 then -i else i), false) := rfl
@[simp] theorem oTuple_l (vs : List Val) : oTuple (.lst vs) = .ok (.tup vs, false) := rfl
@[simp] theorem oTuple_t (vs : List Val) : oTuple (.tup vs) = .ok (.tup vs, false) := rfl
@[simp] theorem oList_l (vs : List Val) : oList (.lst vs) = .ok (.lst vs, true) := rfl
@[simp] theorem oList_t (vs : List Val) : oList (.tup vs) = .ok (.lst vs, true) := rfl
@[simp] theorem oMax2_ii (i j : Int) : oMax2 (.int i) (.int j) = .ok (.int (if j > i then j else i), false) := rfl
@[simp] theorem oMin2_ii (i j : Int) : oMin2 (.int i) (.int j) = .ok (.int (if j < i then j else i), false) := rfl
@[simp] theorem intsV_enc (is : List Int) : intsV (is.map enc) = some is := intsV_map is
@[simp] theorem oSum_l (is : List Int) : oSum (.lst (is.map enc)) = .ok (.int is.sum, false) := by simp only [oSum, intsV_enc]
@[simp] theorem oSum_t (is : List Int) : oSum (.tup (is.map enc)) = .ok (.int is.sum, false) := by simp only [oSum, intsV_enc]
@[simp] theorem oAll_l (bs : List Bool) : oAll (.lst (bs.map .bl)) = .ok (.bl (bs.all id), false) := by simp only [oAll, boolsV_map]
@[simp] theorem oAny_l (bs : List Bool) : oAny (.lst (bs.map .bl)) = .ok (.bl (bs.any id), false) := by simp only [oAny, boolsV_map]
@[simp] theorem isi_ii (i : Int) : oIsi (.int i) (.ty "int") = .ok (.bl true, false) := rfl
@[simp] theorem isi_ib (i : Int) : oIsi (.int i) (.ty "bool") = .ok (.bl false, false) := rfl
@[simp] theorem isi_it (i : Int) : oIsi (.int i) (.ty "tuple") = .ok (.bl false, false) := rfl
@[simp] theorem isi_tt (vs : List Val) : oIsi (.tup vs) (.ty "tuple") = .ok (.bl true, false) := rfl
@[simp] theorem isi_ti (vs : List Val) : oIsi (.tup vs) (.ty "int") = .ok (.bl false, false) := rfl
@[simp] theorem isi_lt (vs : List Val) : oIsi (.lst vs) (.ty "tuple") = .ok (.bl false, false) := rfl
@[simp] theorem isi_li (vs : List Val) : oIsi (.lst vs) (.ty "int") = .ok (.bl false, false) := rfl
@[simp] theorem isi_nt : oIsi .non (.ty "tuple") = .ok (.bl false, false) := rfl
@[simp] theorem isi_ni : oIsi .non (.ty "int") = .ok (.bl false, false) := rfl
@[simp] theorem isi_bi (b : Bool) : oIsi (.bl b) (.ty "int") = .ok (.bl true, false) := rfl
@[simp] theorem isi_bb (b : Bool) : oIsi (.bl b) (.ty "bool") = .ok (.bl true, false) := rfl
/-! ### places -/
theorem ixN_nat (n i : Nat) (h : i < n) : ixN n (i : Int) = some i := by
  unfold ixN; rw [if_pos (by omega), if_pos (by omega)]; simp
theorem oIx_t (vs : List Val) (i : Int) {v : Val} (h : atI vs i = some v) : oIx (.tup vs) (.int i) = .ok (v, false) := by
  show (match atI vs i with | some v => _ | none => _) = _
  rw [h]
theorem oIx_l (vs : List Val) (i : Int) {v : Val} (h : atI vs i = some v) : oIx (.lst vs) (.int i) = .ok (v, false) := by
  show (match atI vs i with | some v => _ | none => _) = _
  rw [h]
theorem atI_nat' {xs : List α} {i : Nat} (h : i < xs.length) : atI xs (i : Int) = some xs[i] := by
  unfold atI; rw [ixN_nat _ _ h]; simp [h]
theorem atI_map (f : α → β) (xs : List α) (i : Int) : atI (xs.map f) i = (atI xs i).map f := by
  unfold atI; rw [List.length_map]
  cases ixN xs.length i <;> simp
theorem atI_last' {xs : List α} {x : α} (h : xs.getLast? = some x) : atI xs (-1) = some x := by
  have hn : xs ≠ [] := fun z => by rw [z] at h; cases h
  have hl : 0 < xs.length := List.length_pos_iff.mpr hn
  unfold atI ixN
  rw [if_neg (by omega), if_pos (by omega)]
  rw [List.getLast?_eq_getElem?] at h
  simp only [Option.bind_some]
  rw [show (-1 + (xs.length : Int)).toNat = xs.length - 1 by omega]
  exact h
/-- a slice -/
def cut (xs : List α) (lo hi : Option Int) : List α := (xs.drop (HT.sIx xs.length 0 lo)).take (HT.sIx xs.length xs.length hi - HT.sIx xs.length 0 lo)
theorem cutD_eq (vs : List Val) (lo hi : Option Int) : cutD vs lo hi = cut vs lo hi := rfl
theorem cut_map (f : α → β) (xs : List α) (lo hi : Option Int) : cut (xs.map f) lo hi = (cut xs lo hi).map f := by
  unfold cut; simp [List.map_take, List.map_drop]
@[simp] theorem cutD_map (f : α → Val) (xs : List α) (lo hi : Option Int) : cutD (xs.map f) lo hi = (cut xs lo hi).map f := by rw [cutD_eq, cut_map]
theorem cut_nn (xs : List α) (i j : Nat) : cut xs (some (i : Int)) (some (j : Int)) = (xs.drop i).take (j - i) := by
  unfold cut
  rw [HT.sIx_nat, HT.sIx_nat]
  by_cases h1 : i ≤ xs.length
  · by_cases h2 : j ≤ xs.length
    · rw [Nat.min_eq_left h1, Nat.min_eq_left h2]
    · rw [Nat.min_eq_left h1, Nat.min_eq_right (by omega)]
      rw [List.take_of_length_le (by rw [List.length_drop]; omega), List.take_of_length_le (by rw [List.length_drop]; omega)]
  · rw [Nat.min_eq_right (show xs.length ≤ i by omega), List.drop_eq_nil_of_le (Nat.le_refl _), List.drop_eq_nil_of_le (show xs.length ≤ i by omega)]
    simp
theorem cut_n (xs : List α) (i : Nat) : cut xs (some (i : Int)) none = xs.drop i := by
  unfold cut
  rw [HT.sIx_nat, HT.sIx_none]
  by_cases h1 : i ≤ xs.length
  · rw [Nat.min_eq_left h1, List.take_of_length_le (by rw [List.length_drop]; exact Nat.le_refl _)]
  · rw [Nat.min_eq_right (by omega), List.drop_eq_nil_of_le (Nat.le_refl _), List.drop_eq_nil_of_le (by omega)]
    simp
theorem cut_1 (xs : List α) : cut xs (some 1) none = xs.tail := by
  have := cut_n xs 1
  simpa using this
@[simp] theorem oSl_t (vs : List Val) (lo hi : Option Int) : oSl (.tup vs) lo hi = .ok (.tup (cutD vs lo hi), false) := rfl
@[simp] theorem oSl_l (vs : List Val) (lo hi : Option Int) : oSl (.lst vs) lo hi = .ok (.lst (cutD vs lo hi), true) := rfl
theorem setV_l (vs : List Val) (i : Nat) (w : Val) (h : i < vs.length) : setV (.lst vs) (.int i) w = some (.lst (vs.set i w)) := by
  show (ixN vs.length i).map _ = _
  rw [ixN_nat _ _ h]; rfl
/-! ### ranges -/
theorem rg_small {i : Int} (h : -1000000 ≤ i) (h2 : i ≤ 20000000) : rgOk i = true := by
  unfold rgOk; exact decide_eq_true (by omega)
def iup (lo : Int) (n : Nat) : List Int := (List.range n).map fun (i : Nat) => lo + (i : Int)
theorem upto_enc (lo : Int) (n : Nat) : upto lo n = (iup lo n).map enc := by
  unfold upto iup; rw [List.map_map]; rfl
theorem rangeV_1 (j : Int) (h : rgOk j = true) : rangeV [.int j] = some (upto 0 j.toNat) := if_pos h
theorem rangeV_2 (i j : Int) (h : rgOk i = true) (h2 : rgOk j = true) : rangeV [.int i, .int j] = some (upto i (j - i).toNat) := if_pos (by rw [h, h2]; rfl)
theorem rangeV_3 (i j : Int) (h : rgOk i = true) (h2 : rgOk j = true) : rangeV [.int i, .int j, .int (-1)] = some (stepto i (-1) (i - j).toNat) := if_pos (by rw [h, h2]; rfl)
theorem rg_nat {n : Nat} (h : n ≤ 20000000) : rgOk (n : Int) = true := rg_small (by omega) (by omega)
theorem upto_nat (a n : Nat) : upto (a : Int) n = (List.range' a n).map enc := by
  unfold upto
  rw [List.range'_eq_map_range, List.map_map]
  apply List.map_congr_left
  intro i _
  show Val.int _ = Val.int _
  simp
theorem range_1 (n : Nat) (h : n ≤ 20000000) : rangeV [.int (n : Int)] = some ((List.range n).map enc) := by
  rw [rangeV_1 _ (rg_nat h)]
  have := upto_nat 0 n
  rw [← List.range_eq_range'] at this
  simpa using this
theorem range_2 (a b : Nat) (h : a ≤ 20000000) (h2 : b ≤ 20000000) : rangeV [.int (a : Int), .int (b : Int)] = some ((List.range' a (b - a)).map enc) := by
  rw [rangeV_2 _ _ (rg_nat h) (rg_nat h2), upto_nat]
  congr 4
  omega
theorem range_3 (n : Nat) (h : n ≤ 20000000) : rangeV [.int ((n : Int) - 1), .int (-1), .int (-1)] = some ((List.range n).map enc).reverse := by
  rw [← List.map_reverse]
  rw [rangeV_3 _ _ (rg_small (by omega) (by omega)) (rg_small (by omega) (by omega))]
  unfold stepto
  rw [show ((n : Int) - 1 - -1).toNat = n by omega]
  apply congrArg some
  apply List.ext_getElem
  · simp
  · intro i h1 h2
    simp at h1 h2 ⊢
    omega
@[simp] theorem seqV_l (vs : List Val) : seqV (.lst vs) = some vs := rfl
@[simp] theorem seqV_t (vs : List Val) : seqV (.tup vs) = some vs := rfl
/-! ### the best of -/
def best1 (lt : α → α → Bool) (x : α) (xs : List α) : α := xs.foldl (fun a y => if lt y a then y else a) x
theorem minV_map [OV α] : ∀ (xs : List α) (x : α), minV (enc x) (xs.map enc) = enc (best1 OV.lt x xs)
  | [], x => rfl
  | y :: xs, x => by
    unfold minV best1
    rw [List.map_cons, List.foldl_cons, List.foldl_cons]
    have e : ltV (enc y) (enc x) = OV.lt y x := OV.ltv y x
    have := minV_map xs (if OV.lt y x = true then y else x)
    unfold minV best1 at this
    rw [e, ← this]
    split <;> rfl
theorem maxV_map [OV α] : ∀ (xs : List α) (x : α), maxV (enc x) (xs.map enc) = enc (best1 (fun y a => OV.lt a y) x xs)
  | [], x => rfl
  | y :: xs, x => by
    unfold maxV best1
    rw [List.map_cons, List.foldl_cons, List.foldl_cons]
    have e : ltV (enc x) (enc y) = OV.lt x y := OV.ltv x y
    have := maxV_map xs (if OV.lt x y = true then y else x)
    unfold maxV best1 at this
    rw [e, ← this]
    split <;> rfl
theorem alikes_map [OV α] (xs : List α) : alikesV (xs.map enc) = true := by
  unfold alikesV
  rw [List.all_map, List.all_eq_true]
  intro a _
  simp only [Function.comp, List.all_map, List.all_eq_true]
  exact fun b _ => OV.alk a b
theorem dataOk_map [EV α] (xs : List α) (h : EV.dep α ≤ 60) : dataOk (xs.map enc) = true := by
  unfold dataOk
  rw [lay_map, Bool.true_and]
  exact decide_eq_true (Nat.le_trans (dp_map xs) h)
theorem bestOk_map [OV α] (x : α) (xs : List α) (h : EV.dep α ≤ 60) : bestOk (enc x) (xs.map enc) = true := by
  unfold bestOk
  rw [← List.map_cons, dataOk_map _ h, alikes_map, List.all_map, Bool.true_and, Bool.true_and, List.all_eq_true]
  intro a _
  have := OV.nn a
  simp only [Function.comp]
theorem oMin_l [OV α] (x : α) (xs : List α) (h : EV.dep α ≤ 60) : oBest minV (.lst ((x :: xs).map enc)) = .ok (enc (best1 OV.lt x xs), false) := by
  show (if bestOk (enc x) (xs.map enc) then _ else _) = _
  rw [bestOk_map _ _ h, minV_map]; rfl
theorem oMin_t [OV α] (x : α) (xs : List α) (h : EV.dep α ≤ 60) : oBest minV (.tup ((x :: xs).map enc)) = .ok (enc (best1 OV.lt x xs), false) := by
  show (if bestOk (enc x) (xs.map enc) then _ else _) = _
  rw [bestOk_map _ _ h, minV_map]; rfl
theorem oMax_l [OV α] (x : α) (xs : List α) (h : EV.dep α ≤ 60) : oBest maxV (.lst ((x :: xs).map enc)) = .ok (enc (best1 (fun y a => OV.lt a y) x xs), false) := by
  show (if bestOk (enc x) (xs.map enc) then _ else _) = _
  rw [bestOk_map _ _ h, maxV_map]; rfl
theorem oMax_t [OV α] (x : α) (xs : List α) (h : EV.dep α ≤ 60) : oBest maxV (.tup ((x :: xs).map enc)) = .ok (enc (best1 (fun y a => OV.lt a y) x xs), false) := by
  show (if bestOk (enc x) (xs.map enc) then _ else _) = _
  rw [bestOk_map _ _ h, maxV_map]; rfl
theorem merge_map (f : α → β) (le : α → α → Bool) (le' : β → β → Bool) (h : ∀ a b, le' (f a) (f b) = le a b) (xs : List α) : (xs.map f).mergeSort le' = (xs.mergeSort le).map f := by
  exact (List.map_mergeSort (r := le) (s := le') (f := f) (l := xs) (fun a _ b _ => (h a b).symm)).symm
theorem sorted_of {vs : List Val} (h : sortOk vs = true) : oSorted (.lst vs) = .ok (.lst (sortV vs), true) := if_pos h
theorem oSorted_t [OV α] [DecidableEq α] (xs : List (List α)) (h : EV.dep (List α) ≤ 60) (hn : ∀ x ∈ xs, x ≠ []) : oSorted (.lst (xs.map enc)) = .ok (.lst ((xs.mergeSort fun a b => !OV.lt b a).map enc), true) := by
  rw [sorted_of, sortV, merge_map enc (fun a b => !OV.lt b a) leV fun a b => by unfold leV; rw [OV.ltv b a]]
  unfold sortOk
  rw [dataOk_map _ h, alikes_map, Bool.true_and, Bool.true_and, Bool.or_eq_true]
  left
  rw [List.all_eq_true]
  intro v hv
  obtain ⟨a, ha, rfl⟩ := List.mem_map.mp hv
  cases a with
  | nil => exact absurd rfl (hn _ ha)
  | cons y ys => rfl
theorem oSorted_i (xs : List Int) : oSorted (.lst (xs.map enc)) = .ok (.lst ((xs.mergeSort fun a b => decide (a ≤ b)).map enc), true) := by
  rw [sorted_of, sortV, merge_map enc (fun a b => decide (a ≤ b)) leV fun a b => ?_]
  rotate_left
  · unfold sortOk
    rw [dataOk_map _ (by decide), alikes_map, Bool.true_and, Bool.true_and, Bool.or_eq_true]
    right
    rw [List.all_eq_true]
    intro v hv
    obtain ⟨a, ha, rfl⟩ := List.mem_map.mp hv
    rfl
  · unfold leV
    rw [OV.ltv b a]
    show (!decide (b < a)) = decide (a ≤ b)
    by_cases h : a ≤ b
    · rw [decide_eq_true h, decide_eq_false (by omega)]; rfl
    · rw [decide_eq_false h, decide_eq_true (by omega)]; rfl
/-! ### in -/
theorem oInB_l [EV α] [DecidableEq α] (a : α) (xs : List α) (h : EV.dep α ≤ 64) : oInB (enc a) (.lst (xs.map enc)) = .ok (decide (a ∈ xs)) := by
  have : oInB (enc a) (.lst (xs.map enc)) = if okV (enc a) && PyData.canLayAll0 (toDs (xs.map enc)) then .ok ((xs.map enc).any fun z => eqV z (enc a)) else .bad := by
    unfold oInB; cases enc a <;> rfl
  rw [this, ok_enc a h, lay_map]
  simp only [Bool.and_self, if_true]
  congr 1
  rw [List.any_map]
  rw [Bool.eq_iff_iff, List.any_eq_true, decide_eq_true_iff]
  constructor
  · rintro ⟨x, hx, e⟩
    simp only [Function.comp] at e
    rw [(EV.eqv x a).mp e] at hx; exact hx
  · exact fun hx => ⟨a, hx, (EV.eqv a a).mpr rfl⟩
theorem oInB_t [EV α] [DecidableEq α] (a : α) (xs : List α) (h : EV.dep α ≤ 64) : oInB (enc a) (.tup (xs.map enc)) = .ok (decide (a ∈ xs)) := by
  have := oInB_l a xs h
  rw [← this]
  unfold oInB; cases enc a <;> rfl
/-! ### comprehensions over data of one kind -/
theorem lc_map {own : List Nat} {it : ID} {g : GD} {t : TD} {elt : ED} {env env1 : EnvD} (xs : List α) (e f : α → Val) (hit : it env = .ok (xs.map e, env1)) (hno : noOwn env1 own = true) (hlen : xs.length ≤ sizeLine)
    (h : ∀ x ∈ xs, (lcStep g t elt (e x) (wipeD env1 own)).Is fun z => z.1 = some (f x) ∧ wipeD z.2 own = wipeD env1 own) (hb : backD env1 (wipeD env1 own) own = env1) : dLc own it g t elt env = .ok (.lst (xs.map f), true, env1) := by
  unfold dLc
  rw [hit]
  simp only [res_ok_bind, hno, Bool.true_and, List.length_map, decide_eq_true hlen, if_true]
  have : ∀ (xs : List α) (acc : List Val), (∀ x ∈ xs, (lcStep g t elt (e x) (wipeD env1 own)).Is fun z => z.1 = some (f x) ∧ wipeD z.2 own = wipeD env1 own) → lcLoop own g t elt (xs.map e) (wipeD env1 own) acc = .ok (acc ++ xs.map f, wipeD env1 own) := fun xs => by
    induction xs with
    | nil => intro acc _; simp [lcLoop]
    | cons x xs ih =>
      intro acc h
      obtain ⟨z, h1, h2, h3⟩ := (h x (by simp)).ex
      obtain ⟨z1, z2⟩ := z
      simp only at h2 h3
      subst h2
      have := lc_pure1 (own := own) (g := g) (t := t) (elt := elt) (env0 := wipeD env1 own) (fun _ => some (f x)) [e x] acc fun v hv => by
        obtain rfl : v = e x := by simpa using hv
        exact ⟨_, h1, h3⟩
      have ih' := ih (acc ++ [f x]) fun y hy => h y (by simp [hy])
      rw [List.map_cons]
      unfold lcLoop at this ⊢
      unfold lcStep at h1
      cases q : g (e x) (wipeD env1 own) with
      | ok e1 =>
        rw [q] at h1
        simp only [res_ok_bind] at h1 ⊢
        cases q2 : t e1 with
        | ok y =>
          rw [q2] at h1
          simp only [res_ok_bind] at h1 ⊢
          cases q3 : y.1 with
          | true =>
            rw [q3] at h1
            simp only [if_true] at h1 ⊢
            cases q4 : elt y.2 with
            | ok u =>
              rw [q4] at h1
              simp only [res_ok_bind] at h1 ⊢
              injection h1 with h1
              injection h1 with ha hb
              injection ha with ha
              rw [hb, h3, ha, ih']
              simp
            | exc c p => rw [q4] at h1; cases h1
            | bad => rw [q4] at h1; cases h1
          | false =>
            rw [q3] at h1
            simp only [Bool.false_eq_true, if_false] at h1
            cases h1
        | exc c p => rw [q2] at h1; cases h1
        | bad => rw [q2] at h1; cases h1
      | exc c p => rw [q] at h1; cases h1
      | bad => rw [q] at h1; cases h1
  rw [this xs [] h]
  simp [noX, hb]
theorem lc_filter {own : List Nat} {it : ID} {g : GD} {t : TD} {elt : ED} {env env1 : EnvD} (xs : List α) (e f : α → Val) (p : α → Bool) (hit : it env = .ok (xs.map e, env1)) (hno : noOwn env1 own = true) (hlen : xs.length ≤ sizeLine)
    (h : ∀ x ∈ xs, (lcStep g t elt (e x) (wipeD env1 own)).Is fun z => z.1 = (if p x then some (f x) else none) ∧ wipeD z.2 own = wipeD env1 own) (hb : backD env1 (wipeD env1 own) own = env1) : dLc own it g t elt env = .ok (.lst ((xs.filter p).map f), true, env1) := by
  have key : ∃ ys : List (α × Bool), ys = xs.map (fun x => (x, p x)) := ⟨_, rfl⟩
  unfold dLc
  rw [hit]
  simp only [res_ok_bind, hno, Bool.true_and, List.length_map, decide_eq_true hlen, if_true]
  have : ∀ (xs : List α) (acc : List Val), (∀ x ∈ xs, (lcStep g t elt (e x) (wipeD env1 own)).Is fun z => z.1 = (if p x then some (f x) else none) ∧ wipeD z.2 own = wipeD env1 own) → lcLoop own g t elt (xs.map e) (wipeD env1 own) acc = .ok (acc ++ (xs.filter p).map f, wipeD env1 own) := fun xs => by
    induction xs with
    | nil => intro acc _; simp [lcLoop]
    | cons x xs ih =>
      intro acc h
      obtain ⟨z, h1, h2, h3⟩ := (h x (by simp)).ex
      obtain ⟨z1, z2⟩ := z
      simp only at h2 h3
      have ih1 := fun acc => ih acc fun y hy => h y (by simp [hy])
      rw [List.map_cons]
      unfold lcLoop
      unfold lcStep at h1
      cases q : g (e x) (wipeD env1 own) with
      | ok e1 =>
        rw [q] at h1
        simp only [res_ok_bind] at h1 ⊢
        cases q2 : t e1 with
        | ok y =>
          rw [q2] at h1
          simp only [res_ok_bind] at h1 ⊢
          cases q3 : y.1 with
          | true =>
            rw [q3] at h1
            simp only [if_true] at h1 ⊢
            cases q4 : elt y.2 with
            | ok u =>
              rw [q4] at h1
              simp only [res_ok_bind] at h1 ⊢
              injection h1 with h1
              injection h1 with ha hb
              cases hp : p x with
              | true =>
                rw [hp, ← ha] at h2
                simp only [if_true] at h2
                injection h2 with h2
                rw [hb, h3, h2, ih1]
                simp [hp]
              | false =>
                rw [hp, ← ha] at h2
                simp at h2
            | exc c p => rw [q4] at h1; cases h1
            | bad => rw [q4] at h1; cases h1
          | false =>
            rw [q3] at h1
            simp only [Bool.false_eq_true, if_false] at h1 ⊢
            injection h1 with h1
            injection h1 with ha hb
            cases hp : p x with
            | true => rw [hp, ← ha] at h2; simp at h2
            | false =>
              rw [hb, h3, ih1]
              simp [hp]
        | exc c p => rw [q2] at h1; cases h1
        | bad => rw [q2] at h1; cases h1
      | exc c p => rw [q] at h1; cases h1
      | bad => rw [q] at h1; cases h1
  rw [this xs [] h]
  simp [noX, hb]
@[simp] theorem oAll_f (xs : List α) (p : α → Bool) : oAll (.lst (xs.map fun x => .bl (p x))) = .ok (.bl (xs.all p), false) := by
  have := oAll_l (xs.map p)
  rw [List.map_map] at this
  rw [show (fun x => Val.bl (p x)) = Val.bl ∘ p from rfl, this, List.all_map]; rfl
@[simp] theorem oSum_f (xs : List α) (p : α → Int) : oSum (.lst (xs.map fun x => .int (p x))) = .ok (.int (xs.map p).sum, false) := by
  have := oSum_l (xs.map p)
  rw [List.map_map] at this
  exact this
/-! ### loops over data of one kind -/
/-- a loop that adds f x for each x with p x -/
theorem for_app {S : Type} {g : GD} {b : SD} (E : List Val → S → EnvD) (e : α → Val) (p : α → Bool) (f : α → Val) : ∀ (xs : List α), (∀ x ∈ xs, ∀ acc tl, acc.length < sizeLine → (g (e x) (E acc tl) >>= b).Is fun r => ∃ tl', r = .nx (E (if p x then acc ++ [f x] else acc) tl')) →
    ∀ acc tl, acc.length + xs.length ≤ sizeLine → ∃ tl', forLoop g b (xs.map e) (E acc tl) = .ok (.nx (E (acc ++ (xs.filter p).map f) tl'))
  | [], h, acc, tl, _ => ⟨tl, by simp [forLoop]⟩
  | x :: xs, h, acc, tl, hl => by
    rw [List.length_cons] at hl
    have h1 := h x (by simp) acc tl (by omega)
    rw [is_bind] at h1
    obtain ⟨e1, q1, h2⟩ := h1.ex
    obtain ⟨r, q2, tl1, h3⟩ := h2.ex
    subst h3
    obtain ⟨tl', h4⟩ := for_app E e p f xs (fun y hy => h y (by simp [hy])) (if p x then acc ++ [f x] else acc) tl1 (by split <;> (try simp) <;> omega)
    refine ⟨tl', ?_⟩
    rw [List.map_cons]
    unfold forLoop
    rw [q1]
    simp only [res_ok_bind]
    rw [q2]
    simp only [res_ok_bind]
    rw [h4]
    cases hp : p x <;> simp [hp]
/-- a loop that folds -/
theorem for_step {S : Type} {g : GD} {b : SD} (E : S → EnvD) (e : α → Val) (st : S → α → S) : ∀ (xs : List α), (∀ x ∈ xs, ∀ s, (g (e x) (E s) >>= b).Is fun r => r = .nx (E (st s x))) → ∀ s, forLoop g b (xs.map e) (E s) = .ok (.nx (E (xs.foldl st s)))
  | [], h, s => rfl
  | x :: xs, h, s => by
    have h1 := h x (by simp) s
    rw [is_bind] at h1
    obtain ⟨e1, q1, h2⟩ := h1.ex
    obtain ⟨r, q2, h3⟩ := h2.ex
    subst h3
    rw [List.map_cons]
    unfold forLoop
    rw [q1]
    simp only [res_ok_bind]
    rw [q2]
    simp only [res_ok_bind]
    exact for_step E e st xs (fun y hy => h y (by simp [hy])) _
/-- a table that is filled from behind -/
def tab (T : Nat → Val) (init : Val) (n k : Nat) : List Val := (List.range (n + 1)).map fun j => if k ≤ j then T j else init
theorem tab_len (T : Nat → Val) (init : Val) (n k : Nat) : (tab T init n k).length = n + 1 := by simp [tab]
theorem tab_top (T : Nat → Val) (init : Val) (n : Nat) : tab T init n n = List.replicate n init ++ [T n] := by
  unfold tab
  rw [List.range_succ, List.map_append]
  congr 1
  · apply List.ext_getElem
    · simp
    · intro i h1 h2
      simp at h1 h2 ⊢
      omega
  · simp
theorem tab_at (T : Nat → Val) (init : Val) (n k e : Nat) (h : k ≤ e) (h2 : e ≤ n) : atI (tab T init n k) (e : Int) = some (T e) := by
  rw [atI_nat' (by rw [tab_len]; omega)]
  simp [tab, h]
theorem tab_set (T : Nat → Val) (init : Val) (n k : Nat) (h : k < n) : (tab T init n (k + 1)).set k (T k) = tab T init n k := by
  apply List.ext_getElem
  · simp [tab]
  · intro i h1 h2
    rw [List.getElem_set]
    simp [tab]
    split
    · rename_i e; subst e; simp
    · rename_i e
      by_cases h3 : k ≤ i
      · rw [if_pos (by omega), if_pos h3]
      · rw [if_neg (by omega), if_neg h3]
theorem tab_all (T : Nat → Val) (init : Val) (n : Nat) : tab T init n 0 = (List.range (n + 1)).map T := by simp [tab]
theorem rev_at {n i : Nat} (h : i < n) : ((List.range n).reverse)[i]? = some (n - 1 - i) := by
  rw [List.getElem?_eq_getElem (by simpa using h)]
  simp
/-- the loop that fills it -/
theorem for_tab {S : Type} {g : GD} {b : SD} (E : List Val → S → EnvD) (T : Nat → Val) (init : Val) (n : Nat)
    (h : ∀ k, k < n → ∀ tl, (g (enc k) (E (tab T init n (k + 1)) tl) >>= b).Is fun r => ∃ tl', r = .nx (E (tab T init n k) tl')) (tl : S) :
    ∃ tl', forLoop g b ((List.range n).map enc).reverse (E (tab T init n n) tl) = .ok (.nx (E ((List.range (n + 1)).map T) tl')) := by
  rw [← List.map_reverse]
  have := for_inv (g := g) (b := b) (Q := fun r => ∃ tl', r = .nx (E ((List.range (n + 1)).map T) tl')) ((List.range n).reverse.map enc) (fun i env => i ≤ n ∧ ∃ tl, env = E (tab T init n (n - i)) tl) (E (tab T init n n) tl) ⟨by omega, tl, rfl⟩ (fun i hi env hI => ?_) (fun env hI => ?_)
  · obtain ⟨r, h1, tl', h2⟩ := this.ex
    exact ⟨tl', by rw [h1, h2]⟩
  · obtain ⟨h1, tl, rfl⟩ := hI
    simp at hi
    have q := h (n - 1 - i) (by omega) tl
    rw [show n - 1 - i + 1 = n - i by omega] at q
    rw [show ((List.range n).reverse.map enc)[i] = enc (n - 1 - i) by simp]
    refine q.mono fun r ⟨tl', e⟩ => ?_
    subst e
    exact ⟨by omega, tl', by rw [show n - (i + 1) = n - 1 - i by omega]⟩
  · obtain ⟨_, tl, rfl⟩ := hI
    refine ⟨tl, ?_⟩
    simp [tab_all]
end
end PV

namespace PV
open PySem PySem.Spec PyProof.Rows L2
/-! ### zip whose pairs are kept: one rule for a turn and for the end -/
section
variable {prog : Program} {w : World} {A : Around} {E : Value → Shared → Prop} {s : Shared}
/-- next of a thing whose class has it as a built-in: what it returns, or StopIteration -/
theorem pyNext_slot {T : String} {id : String} {B : Builtin} {self : Value} {Q : Option Value → Shared → Prop} (hT : s.TypeIs self T) (sl : PySem.Slot T (Str.ofString "__next__") id) (en : entryFor table id = some B) (ar : argsOk id ⟨[self], []⟩)
    (body : wpAny (model prog w) A.in1 (B ⟨[self], []⟩) (fun fin s1 => ∃ v, fin = .done (.ret v) ∧ Q (some v) s1) (fun e s1 => s1.TypeIs e "StopIteration" ∧ Q none s1) s) : wpAny (model prog w) A (pyNext self) Q E s := by
  have called := wpAny_call_entry (Q := fun v s1 => Q (some v) s1) sl hT en body ar
  refine wpAny_bind (wpAny_attempt (wpAny_mono (wpAny_callSpecial?_slot (Q := fun r s1 => ∃ v, r = some v ∧ Q (some v) s1) hT sl (wpAny_mono called (fun v _ q => ⟨v, rfl, q⟩) fun _ _ q => q)) ?_ ?_))
  · rintro _ s1 ⟨v, rfl, q⟩
    exact wpAny_pure q
  · rintro e s1 ⟨te, q⟩
    exact wpAny_bind (wpAny_isInstance te isSubtype_stop (wpAny_pure q))
variable {it : Addr} {fp : List Addr} {n i : Nat} {P : Nat → Value → Prop} {St : Nat → Heap → Prop}
/-- what is drawn from one of the iterators: its item, or StopIteration when none is left -/
theorem draw_or_stop {Q : Value → Shared → Prop} (D : Draws prog w A it fp n P St) (st : St i s.heap) (le : i ≤ n)
    (item : i < n → ∀ x h tk, P i x → St (i + 1) h → Heap.SameBut it s.heap h → Q x { s with heap := h, toks := tk })
    (stop : i = n → ∀ h e, (∀ c o, c ≠ it → s.heap.get? c = some o → h.get? c = some o) → (∃ o, h.get? e = some o ∧ o.cls = .type "StopIteration") → E (.ref e) { s with heap := h }) :
    wpAny (model prog w) A (Builtin.SmallTypes.nextOf (.ref it)) Q E s := by
  rcases Nat.lt_or_eq_of_le le with lt | rfl
  · exact D.item i s Q E lt st (item lt)
  · exact D.done s Q E st fun h e k te => stop rfl h e (fun c o ne q => k c o ne q) te
variable {z TI TO T i1 i2 : Addr} {fp1 fp2 : List Addr} {n1 n2 : Nat} {P1 P2 : Nat → Value → Prop} {St1 St2 : Nat → Heap → Prop} {f : Bool} {oT : Obj}
theorem zipHeld_next {Q : Option Value → Shared → Prop} (S : ZipSep2 z TI TO i1 i2 fp1 fp2) (D1 : Draws prog w A.in1 i1 fp1 n1 P1 St1) (D2 : Draws prog w A.in1 i2 fp2 n2 P2 St2)
    (hz : IsZipHeld s.heap z TI TO T f) (hT : s.heap.get? T = some oT) (hTI : IsTupOf2 s.heap TI (.ref i1) (.ref i2)) (st1 : St1 i s.heap) (st2 : St2 i s.heap) (le1 : i ≤ n1) (le2 : i ≤ n2)
    (item : i < n1 → i < n2 → ∀ x y h tk, P1 i x → P2 i y → IsZipHeld h z TI TO T true → St1 (i + 1) h → St2 (i + 1) h → IsTupOf2 h s.heap.objs.size x y → h.objs.size = s.heap.objs.size + 1 →
      (∀ c o, c ≠ z → c ≠ i1 → c ≠ i2 → s.heap.get? c = some o → h.get? c = some o) → Q (some (.ref s.heap.objs.size)) { s with heap := h, toks := tk })
    (stop : i = n1 ∨ i = n2 → ∀ h tk, (∀ c o, c ≠ z → c ≠ i1 → c ≠ i2 → s.heap.get? c = some o → h.get? c = some o) → Q none { s with heap := h, toks := tk }) :
    wpAny (model prog w) A (pyNext (.ref z)) Q E s := by
  refine pyNext_slot ⟨_, hz, rfl⟩ F.slot_zip_next F.entry_zip_next (F.args_zip_next_1 _) ?_
  have apart1 : ∀ {h h' : Heap}, Heap.SameBut z h h' → St1 i h → St1 i h' := fun b q => D1.over q b S.zf1
  have apart2 : ∀ {h h' : Heap}, Heap.SameBut z h h' → St2 i h → St2 i h' := fun b q => D2.over q b S.zf2
  -- the flag, the two iterators, and the tuple that is held
  show wpAny _ _ (field (.ref z) 2 >>= fun _ => _) _ _ _
  refine wpAny_bind (wpAny_field hz rfl (x := Value.bool false) rfl ?_)
  show wpAny _ _ (field (.ref z) 3 >>= fun _ => _) _ _ _
  refine wpAny_bind (wpAny_field hz rfl (x := Value.ref TI) rfl (wpAny_bind (wpAny_seqItems hTI rfl ?_)))
  show wpAny _ _ (Builtin.SmallTypes.ownedTupleIsFree (.ref z) >>= fun _ => _) _ _ _
  refine wpAny_bind (wpAny_tupleHeld_zip hz hT fun h0 z0 b0 => wpAny_ite_false (by decide) (wpAny_bind ?_))
  -- the two draws
  rw [← Array.forIn_toList]
  simp only [List.forIn_cons, List.forIn_nil]
  refine wpAny_bind (wpAny_bind (wpAny_holding ?_))
  show wpAny _ _ (Builtin.SmallTypes.nextOf (.ref i1) >>= fun _ => _) _ _ _
  refine wpAny_bind (draw_or_stop (s := { s with heap := h0 }) D1 (apart1 b0 st1) le1 (fun lt1 x h1 tk1 px sx b1 => ?_) fun e1 h e k te => ⟨te, stop (.inl e1) h _ fun c o c1 c2 _ q => k c o c2 (b0.extBut _ _ c1 q)⟩)
  have b1 : Heap.SameBut i1 h0 h1 := b1
  refine wpAny_pure (wpAny_pure ?_)
  refine wpAny_bind (wpAny_bind (wpAny_holding ?_))
  show wpAny _ _ (Builtin.SmallTypes.nextOf (.ref i2) >>= fun _ => _) _ _ _
  refine wpAny_bind (draw_or_stop (s := { s with heap := h1, toks := tk1 }) D2 (D2.over (apart2 b0 st2) b1 S.sep1_2) le2 (fun lt2 y h2 tk2 py sy b2 => ?_) fun e2 h e k te =>
    ⟨te, stop (.inr e2) h tk1 fun c o c1 c2 c3 q => k c o c3 (b1.extBut _ _ c2 (b0.extBut _ _ c1 q))⟩)
  have b2 : Heap.SameBut i2 h1 h2 := b2
  have size2 : h2.objs.size = s.heap.objs.size := b2.1.trans (b1.1.trans b0.1)
  let h3 := h2.push { cls := .type "tuple", data := .seq #[x, y] }
  have up : ∀ c o, h2.get? c = some o → h3.get? c = some o := fun c o q => Heap.get?_push_of_some _ q
  have made := item lt1 lt2 x y h3 tk2 px py (up _ _ (b2.extBut _ _ S.zi2 (b1.extBut _ _ S.zi1 z0))) (D1.frame _ _ _ (D1.over sx b2 S.sep2_1) fun c _ o => up c o) (D2.frame _ _ _ sy fun c _ o => up c o)
    (size2 ▸ Heap.get?_push_size h2 rfl) ((Heap.size_push ..).trans (congrArg (· + 1) size2)) fun c o c1 c2 c3 q => up c o (b2.extBut _ _ c3 (b1.extBut _ _ c2 (b0.extBut _ _ c1 q)))
  exact wpAny_pure (wpAny_pure (wpAny_pure (wpAny_bind (wpAny_newTuple (wpAny_pure ⟨_, rfl, size2 ▸ made⟩) (by show 2 ≤ sizeLine; decide)))))
end
end PV

namespace PV
open PySem PySem.Spec PyProof.Rows L2
/-! ### list(zip(a, b)) -/
theorem zl_nolen : typeLookup (.type "zip") "__len__" = pure none := by rw [typeLookup_type, builtinLookup_eq_fast]; kernel_rfl
theorem zl_nohint : typeLookup (.type "zip") "__length_hint__" = pure none := by rw [typeLookup_type, builtinLookup_eq_fast]; kernel_rfl
theorem zl_hint' {prog : Program} {w : World} {A : Around} {E : Value → Shared → Prop} {s : Shared} {T : String} {I : Addr} {Q : Bool → Shared → Prop} (hT : s.TypeIs (.ref I) T) (nolen : typeLookup (.type T) "__len__" = pure none) (nohint : typeLookup (.type T) "__length_hint__" = pure none) (q : Q true s) :
    wpAny (model prog w) A (Builtin.List.listLengthHint (.ref I)) Q E s := by
  unfold Builtin.List.listLengthHint
  refine wpAny_bind (wpAny_specialOf hT nolen ?_)
  exact wpAny_bind (wpAny_specialOf (name := Str.ofString "__length_hint__") hT nohint (wpAny_pure q))
/-- the list S takes in what a zip gives: the zip behind i turns -/
def Listed (S : Addr) (k1 k2 : SK) (t1 t2 : Tok) (z TI TO i1 i2 : Addr) (xs ys : Array Value) (i : Nat) (h : Heap) : Prop :=
  IsTupOf2 h TI (.ref i1) (.ref i2) ∧ (IterK k1 t1 h i1 i ∧ IsSeqK k1 h xs) ∧ (IterK k2 t2 h i2 i ∧ IsSeqK k2 h ys) ∧
    ((IsZip h z TI TO .none ∧ ∃ u v, IsTupOf2 h TO u v) ∨ ∃ T f oT, IsZipHeld h z TI TO T f ∧ h.get? T = some oT ∧ T ∉ [S, z, i1, i2])
structure ListSep (S z TI TO i1 i2 : Addr) (k1 k2 : SK) : Prop where
  sep : ZipSep2 z TI TO i1 i2 (fpK k1 i1) (fpK k2 i2)
  b1 : i1 ∉ baseK k1
  b2 : i2 ∉ baseK k2
  self : S ∉ [z, TI, TO, i1, i2]
  s1 : S ∉ baseK k1
  s2 : S ∉ baseK k2
/-- the pairs that were made, one cell after the other from lo on -/
def PairsAt (k1 k2 : SK) (xs ys : Array Value) (lo n : Nat) (h : Heap) : Prop := ∀ j, j < n → ∃ x y, PK k1 xs j x ∧ PK k2 ys j y ∧ IsTupOf2 h (lo + j) x y
def cellsFrom (lo n : Nat) : List Addr := (List.range n).map (lo + ·)
theorem cellsFrom_succ (lo n : Nat) : cellsFrom lo (n + 1) = cellsFrom lo n ++ [lo + n] := by simp [cellsFrom, List.range_succ]
abbrev listAt (h : Heap) (S : Addr) (as : List Addr) : Prop := ∃ c, h.get? S = some { cls := .type "list", dict := none, data := .seq (as.map Value.ref).toArray c, slots := #[] }
section
variable {prog : Program} {w : World} {A : Around} {E : Value → Shared → Prop} {s : Shared} {S z TI TO i1 i2 : Addr} {k1 k2 : SK} {t1 t2 : Tok} {xs ys : Array Value} {i : Nat} {h h' : Heap}
theorem Listed.else (L : ListSep S z TI TO i1 i2 k1 k2) (q : Listed S k1 k2 t1 t2 z TI TO i1 i2 xs ys i h) (k : ∀ c o, c ≠ S → h.get? c = some o → h'.get? c = some o) : Listed S k1 k2 t1 t2 z TI TO i1 i2 xs ys i h' := by
  have out : ∀ c ∈ [z, TI, TO, i1, i2], ∀ o, h.get? c = some o → h'.get? c = some o := fun c hc o => k c o fun e => L.self (e ▸ hc)
  obtain ⟨a, ⟨b1, c1⟩, ⟨b2, c2⟩, d⟩ := q
  refine ⟨out TI (by simp) _ a, ⟨b1.at (out i1 (by simp)), c1.at L.s1 k⟩, ⟨b2.at (out i2 (by simp)), c2.at L.s2 k⟩, d.imp ?_ ?_⟩
  · rintro ⟨e, u, v, f⟩
    exact ⟨out z (by simp) _ e, u, v, out TO (by simp) _ f⟩
  · rintro ⟨T, f, oT, e, hT, n⟩
    exact ⟨T, f, oT, out z (by simp) _ e, k T _ (fun e => n (by simp [e])) hT, n⟩
/-- the next pair, or none -/
theorem listed_next {Q : Option Value → Shared → Prop} (hh : A.handled = none) (L : ListSep S z TI TO i1 i2 k1 k2) (st : Listed S k1 k2 t1 t2 z TI TO i1 i2 xs ys i s.heap) (hS : S < s.heap.objs.size) (le1 : i ≤ xs.size) (le2 : i ≤ ys.size)
    (item : i < xs.size → i < ys.size → ∀ x y h tk, PK k1 xs i x → PK k2 ys i y → Listed S k1 k2 t1 t2 z TI TO i1 i2 xs ys (i + 1) h → IsTupOf2 h s.heap.objs.size x y → h.objs.size = s.heap.objs.size + 1 →
      (∀ c o, c ∉ [z, TO, i1, i2] → s.heap.get? c = some o → h.get? c = some o) → Q (some (.ref s.heap.objs.size)) { s with heap := h, toks := tk })
    (stop : i = xs.size ∨ i = ys.size → ∀ h tk, (∀ c o, c ∉ [z, TO, i1, i2] → s.heap.get? c = some o → h.get? c = some o) → Q none { s with heap := h, toks := tk }) : wpAny (model prog w) A (pyNext (.ref z)) Q E s := by
  obtain ⟨a, st1, st2, d⟩ := st
  have D1 := drawsK (prog := prog) (w := w) (A := A.in1) (k := k1) (t := t1) hh i1 L.b1 xs
  have D2 := drawsK (prog := prog) (w := w) (A := A.in1) (k := k2) (t := t2) hh i2 L.b2 ys
  have three : ∀ {h : Heap}, (∀ c o, c ≠ z → c ≠ i1 → c ≠ i2 → s.heap.get? c = some o → h.get? c = some o) → ∀ c o, c ∉ [z, TO, i1, i2] → s.heap.get? c = some o → h.get? c = some o := fun k c o hc =>
    k c o (fun e => hc (by simp [e])) (fun e => hc (by simp [e])) (fun e => hc (by simp [e]))
  have four : ∀ {h : Heap}, (∀ c o, c ≠ z → c ≠ TO → c ≠ i1 → c ≠ i2 → s.heap.get? c = some o → h.get? c = some o) → ∀ c o, c ∉ [z, TO, i1, i2] → s.heap.get? c = some o → h.get? c = some o := fun k c o hc =>
    k c o (fun e => hc (by simp [e])) (fun e => hc (by simp [e])) (fun e => hc (by simp [e])) (fun e => hc (by simp [e]))
  have TIout : TI ∉ [z, TO, i1, i2] := by
    simp only [List.mem_cons, List.not_mem_nil, or_false, not_or]
    exact ⟨L.sep.TIz, L.sep.TITO, L.sep.TIi1, L.sep.TIi2⟩
  rcases d with ⟨e, u, v, f⟩ | ⟨T, f, oT, e, hT, n⟩
  · have new : s.heap.objs.size ∉ [S, z, i1, i2] := by
      obtain ⟨_, q1, _⟩ := st1.1.obj
      obtain ⟨_, q2, _⟩ := st2.1.obj
      simp only [List.mem_cons, List.not_mem_nil, or_false, not_or]
      exact ⟨Nat.ne_of_gt hS, Nat.ne_of_gt (Heap.lt_size e), Nat.ne_of_gt (Heap.lt_size q1), Nat.ne_of_gt (Heap.lt_size q2)⟩
    by_cases c : i < xs.size ∧ i < ys.size
    · exact wpAny_pyNext_zipD2_item L.sep D1 D2 e a f st1 st2 c.1 c.2 fun x y h tk px py z' _ s1 s2 made sz k => item c.1 c.2 x y h tk px py ⟨four k TI _ TIout a, s1, s2, .inr ⟨_, false, _, z', made, new⟩⟩ made sz (four k)
    · exact wpAny_pyNext_zipD2_end L.sep D1 D2 e a f st1 st2 le1 le2 (by omega) fun h tk k => stop (by omega) h tk (four k)
  · refine zipHeld_next L.sep D1 D2 e hT a st1 st2 le1 le2 (fun l1 l2 x y h tk px py z' s1 s2 made sz k => ?_) fun en h tk k => stop en h tk (three k)
    have hT' : h.get? T = some oT := k T _ (fun q => n (by simp [q])) (fun q => n (by simp [q])) (fun q => n (by simp [q])) hT
    exact item l1 l2 x y h tk px py ⟨three k TI _ TIout a, s1, s2, .inr ⟨T, true, oT, z', hT', n⟩⟩ made sz (three k)
/-- the loop that fills the list -/
theorem listed_loop {R : Result → Shared → Prop} {lo n : Nat} {res : Value} {h0 : Heap} (hh : A.handled = none) (L : ListSep S z TI TO i1 i2 k1 k2) (hlo : ∀ c ∈ [S, z, TO, i1, i2], c < lo) (en : n = min xs.size ys.size) (hn : n ≤ sizeLine)
    (done : ∀ h tk, (∀ b o, b ∉ [S, z, TO, i1, i2] → h0.get? b = some o → h.get? b = some o) → listAt h S (cellsFrom lo n) → PairsAt k1 k2 xs ys lo n h → R (.ok (.ret res)) { s with heap := h, toks := tk }) :
    ∀ (k i : Nat) (h : Heap) (tk : Nat), i + k = n → Listed S k1 k2 t1 t2 z TI TO i1 i2 xs ys i h → (∀ b o, b ∉ [S, z, TO, i1, i2] → h0.get? b = some o → h.get? b = some o) → h.objs.size = lo + i → listAt h S (cellsFrom lo i) → PairsAt k1 k2 xs ys lo i h →
      codeAny (model prog w) A (.builtin "list.extend.loop" ⟨[.ref S, .ref z, res], []⟩) R { s with heap := h, toks := tk } := by
  have lowS : S < lo := hlo S (by simp)
  have Sout : S ∉ [z, TO, i1, i2] := fun q => L.self (by simp only [List.mem_cons, List.not_mem_nil, or_false] at q ⊢; exact q.imp_right .inr)
  have high : ∀ j, lo + j ∉ [S, z, TO, i1, i2] := fun j q => absurd (hlo _ q) (by show ¬ lo + j < lo; omega)
  have high' : ∀ j, lo + j ∉ [z, TO, i1, i2] := fun j q => high j (List.mem_cons_of_mem _ q)
  have pairs : ∀ {i : Nat} {h h' : Heap}, PairsAt k1 k2 xs ys lo i h → (∀ j o, h.get? (lo + j) = some o → h'.get? (lo + j) = some o) → PairsAt k1 k2 xs ys lo i h' := fun p k j hj => by
    obtain ⟨x, y, a, b, c⟩ := p j hj
    exact ⟨x, y, a, b, k j _ c⟩
  intro k
  induction k with
  | zero =>
    rintro i h tk rfl st kp sz ⟨c, hl⟩ hp
    refine codeAny_builtin PySem.F.entry_extend_loop ?_
    rw [Around.under_plainId PySem.F.plain_extend_loop _]
    show wpAny _ A.in1 (pyNext (.ref z) >>= _) _ _ _
    refine wpAny_bind (listed_next (s := { s with heap := h, toks := tk }) (A := A.in1) hh L st (Heap.lt_size hl) (by omega) (by omega) (fun l1 l2 => absurd en (by omega)) fun _ h' tk' kk => wpAny_pure ?_)
    exact done h' tk' (fun b o hb q => kk b o (fun e => hb (List.mem_cons_of_mem _ e)) (kp b o hb q)) ⟨c, kk S _ Sout hl⟩ (pairs hp fun j o => kk _ o (high' j))
  | succ k ih =>
    rintro i h tk hi st kp sz ⟨c, hl⟩ hp
    have len : ((cellsFrom lo i).map Value.ref).toArray.size = i := by simp [cellsFrom]
    refine codeAny_builtin PySem.F.entry_extend_loop ?_
    rw [Around.under_plainId PySem.F.plain_extend_loop _]
    show wpAny _ A.in1 (pyNext (.ref z) >>= _) _ _ _
    refine wpAny_bind (listed_next (s := { s with heap := h, toks := tk }) (A := A.in1) hh L st (Heap.lt_size hl) (by omega) (by omega) (fun l1 l2 x y h1 tk1 px py st1 made sz1 kk => ?_) fun e => absurd e (by omega))
    have made : IsTupOf2 h1 (lo + i) x y := by rw [← sz]; exact made
    have hl1 := kk S _ Sout hl
    show wpAny _ A.in1 (updateSeq S (·.push (Value.ref h.objs.size)) >>= _) _ _ _
    refine wpAny_bind (wpAny_updateSeq hl1 rfl ?_ (by rw [len]; omega) (by show (((cellsFrom lo i).map Value.ref).toArray.push _).size ≤ sizeLine + 1; rw [Array.size_push, len]; omega))
    refine wpAny_pure ⟨plainId_quiet PySem.F.plain_extend_loop _, ?_⟩
    have other : ∀ b o, b ≠ S → h1.get? b = some o → (h1.update S (Obj.mapSeq (·.push (Value.ref h.objs.size)))).get? b = some o := fun b o hb q => (Heap.get?_update_other _ _ (Ne.symm hb)).trans q
    have grown := Heap.get?_update_self (Obj.mapSeq (·.push (Value.ref h.objs.size))) hl1 rfl
    have e : ((cellsFrom lo i).map Value.ref).toArray.push (Value.ref h.objs.size) = ((cellsFrom lo (i + 1)).map Value.ref).toArray := by rw [cellsFrom_succ, sz]; simp
    have notS : ∀ j, lo + j ≠ S := fun j e => high j (by simp [e])
    refine ih (i + 1) _ tk1 (by omega) (st1.else L other) (fun b o hb q => other b o (fun e => hb (by simp [e])) (kk b o (fun e => hb (List.mem_cons_of_mem _ e)) (kp b o hb q))) ?_ ⟨_, grown.trans (by rw [← e]; rfl)⟩ fun j hj => ?_
    · rw [Heap.size_update]; show h1.objs.size = _; rw [sz1]; show h.objs.size + 1 = _; omega
    · rcases Nat.lt_succ_iff_lt_or_eq.mp hj with hj | rfl
      · obtain ⟨x', y', a, b, q⟩ := hp j hj
        exact ⟨x', y', a, b, other _ _ (notS j) (kk _ _ (high' j) q)⟩
      · exact ⟨x, y, px, py, other _ _ (notS j) made⟩
end
section
variable {prog : Program} {w : World} {A : Around} {s : Shared}
/-- list.extend of an iterator whose class tells no length: room is made, then the loop runs -/
theorem extend_unhinted {T : String} {S I : Addr} {c0 : Nat} {res : Value} {R : Result → Shared → Prop} (hT : s.TypeIs (.ref I) T) (nolen : typeLookup (.type T) "__len__" = pure none) (nohint : typeLookup (.type T) "__length_hint__" = pure none)
    (nl : (Value.type T == Value.type "list") = false) (nt : (Value.type T == Value.type "tuple") = false) (ne : S ≠ I) (self : ∀ {Q : Value → Shared → Prop} {E : Value → Shared → Prop}, Q (.ref I) s → wpAny (model prog w) A.in1 (pyIter (.ref I)) Q E s)
    (hS : s.heap.get? S = some { cls := .type "list", data := .seq #[] c0 })
    (loop : ∀ h, (∀ b o, b ≠ S → s.heap.get? b = some o → h.get? b = some o) → h.objs.size = s.heap.objs.size → listAt h S [] → codeAny (model prog w) A (.builtin "list.extend.loop" ⟨[.ref S, .ref I, res], []⟩) R { s with heap := h }) :
    wpAny (model prog w) A.in1 (Builtin.List.listExtendWith (.ref S) (.ref I) res) (fun fin s' => match fin with | .done f => R (.ok f) s' | .again c' => c'.quiet = true ∧ codeAny (model prog w) A c' R s') (fun e s' => R (.error e) s') s := by
  have hint : ∀ {Q : Bool → Shared → Prop} {E : Value → Shared → Prop}, Q true s → wpAny (model prog w) A.in1 (Builtin.List.listLengthHint (.ref I)) Q E s := fun q => zl_hint' hT nolen nohint q
  have apart : Builtin.List.listSameRef (.ref S) (.ref I) = false := by simp [Builtin.List.listSameRef, ne]
  obtain ⟨hp, g, d, tk, os⟩ := s
  unfold Builtin.List.listExtendWith
  wp_walk using wpAny_typeOf hT, self, hint
  have up : ∀ {h : Heap} (f : Array Value → Array Value) b o, b ≠ S → h.get? b = some o → (h.update S (Obj.mapSeq f)).get? b = some o := fun f b o nb q => (Heap.get?_update_other _ _ (Ne.symm nb)).trans q
  have at1 := Heap.get?_update_self (Obj.mapSeq (·.push Value.none)) hS rfl
  have at2 := Heap.get?_update_self (Obj.mapSeq (·.pop)) at1 rfl
  exact ⟨plainId_quiet PySem.F.plain_extend_loop _, loop _ (fun b o nb q => up _ b o nb (up _ b o nb q)) (by rw [Heap.size_update, Heap.size_update]) ⟨_, at2⟩⟩
/-- list(I) for such an iterator -/
theorem list_unhinted {T : String} {I : Addr} {o : Obj} {Q : Value → Shared → Prop} {E : Value → Shared → Prop} (ho : s.heap.get? I = some o) (hc : o.cls = .type T) (nolen : typeLookup (.type T) "__len__" = pure none) (nohint : typeLookup (.type T) "__length_hint__" = pure none)
    (nl : (Value.type T == Value.type "list") = false) (nt : (Value.type T == Value.type "tuple") = false) (self : ∀ {A : Around} {s : Shared} {Q : Value → Shared → Prop} {E : Value → Shared → Prop}, s.heap.get? I = some o → Q (.ref I) s → wpAny (model prog w) A (pyIter (.ref I)) Q E s)
    (loop : ∀ h, (∀ b o, s.heap.get? b = some o → h.get? b = some o) → h.objs.size = s.heap.objs.size + 1 → listAt h s.heap.objs.size [] →
      codeAny (model prog w) A.in1 (.builtin "list.extend.loop" ⟨[.ref s.heap.objs.size, .ref I, .none], []⟩) (wants (fun r s1 => r = .none ∧ Q (.ref s.heap.objs.size) s1) E) { s with heap := h }) :
    wpAny (model prog w) A (call (.type "list") [.ref I]) Q E s := by
  have new : (s.heap.push { cls := .type "list", data := .seq #[] }).get? s.heap.objs.size = some { cls := .type "list", data := .seq #[] } := Heap.get?_push_size _ rfl
  refine callType_codes (Q₁ := fun obj s₁ => obj = .ref s.heap.objs.size ∧ s₁ = { s with heap := s.heap.push { cls := .type "list", data := .seq #[] } }) PySem.F.called_list (PySem.F.typeCall_list_1 _) PySem.F.entry_list_init (code_list_new _ ⟨rfl, rfl⟩) ?_
  rintro _ _ ⟨rfl, rfl⟩
  refine ⟨⟨_, new, rfl⟩, PySem.F.args_list_init_2 _ _, ?_⟩
  have old : ∀ {b : Addr} {o : Obj}, s.heap.get? b = some o → (s.heap.push { cls := .type "list", data := .seq #[] }).get? b = some o := fun q => Heap.get?_push_of_some _ q
  have emptied := Heap.get?_update_self (Obj.mapSeq fun _ => (#[] : Array Value)) new rfl
  have ne : s.heap.objs.size ≠ I := Nat.ne_of_gt (Heap.lt_size ho)
  have rest : ∀ b o, b ≠ s.heap.objs.size → (s.heap.push { cls := .type "list", data := .seq #[] }).get? b = some o → ((s.heap.push { cls := .type "list", data := .seq #[] }).update s.heap.objs.size (Obj.mapSeq fun _ => (#[] : Array Value))).get? b = some o := fun b o nb q => (Heap.get?_update_other _ _ (Ne.symm nb)).trans q
  have ty : Shared.TypeIs { s with heap := (s.heap.push { cls := .type "list", data := .seq #[] }).update s.heap.objs.size (Obj.mapSeq fun _ => (#[] : Array Value)) } (.ref I) T := ⟨o, rest I o ne.symm (old ho), hc⟩
  have ext := extend_unhinted (A := A.in1) (res := .none) (R := wants (fun r s1 => r = .none ∧ Q (.ref s.heap.objs.size) s1) E) ty nolen nohint nl nt ne (fun {Q E} q => self (rest I o ne.symm (old ho)) q) emptied fun h k sz l =>
    loop h (fun b o q => k b o (Nat.ne_of_lt (Heap.lt_size q)) (rest b o (Nat.ne_of_lt (Heap.lt_size q)) (old q))) (by rw [sz, Heap.size_update, Heap.size_push]) l
  refine wpAny_bind (wpAny_bind (wpAny_seqItems new rfl (wpAny_pure ?_)))
  exact wpAny_bind (wpAny_updateSeq new rfl (wpAny_bind (wpAny_letGo ext)))
end
/-! ### the new list and its pairs, tracked -/
/-- H with the list at S and its pairs behind it -/
def withPairs (H : Hp) (S : Nat) (ps : List (V × V)) : Hp := fun (c : Nat) =>
  if c < S then H c else if c = S then some (.lst ((cellsFrom (S + 1) ps.length).map V.ref)) else match ps[c - (S + 1)]? with
    | some p => some (.tup [p.1, p.2])
    | none => H c
theorem withPairs_low {H : Hp} {S c : Nat} {ps : List (V × V)} (h : c < S) : withPairs H S ps c = H c := if_pos h
theorem withPairs_self {H : Hp} {S : Nat} {ps : List (V × V)} : withPairs H S ps S = some (.lst ((cellsFrom (S + 1) ps.length).map V.ref)) := by
  unfold withPairs
  rw [if_neg (Nat.lt_irrefl S), if_pos rfl]
theorem withPairs_at {H : Hp} {S j : Nat} {ps : List (V × V)} {p : V × V} (e : ps[j]? = some p) : withPairs H S ps (S + 1 + j) = some (.tup [p.1, p.2]) := by
  unfold withPairs
  rw [if_neg (by omega), if_neg (by omega), Nat.add_sub_cancel_left, e]
theorem withPairs_some {H : Hp} {S c : Nat} {ps : List (V × V)} {u : HO} (h : withPairs H S ps c = some u) :
    H c = some u ∨ (c = S ∧ u = .lst ((cellsFrom (S + 1) ps.length).map V.ref)) ∨ ∃ j p, c = S + 1 + j ∧ ps[j]? = some p ∧ u = .tup [p.1, p.2] := by
  unfold withPairs at h
  split at h
  · exact .inl h
  · split at h
    · rename_i e; cases h; exact .inr (.inl ⟨e, rfl⟩)
    · split at h
      · rename_i p e; cases h; exact .inr (.inr ⟨c - (S + 1), p, by omega, e, rfl⟩)
      · exact .inl h
theorem mem_cells {lo n c : Nat} : c ∈ cellsFrom lo n ↔ ∃ j, j < n ∧ c = lo + j := by
  simp only [cellsFrom, List.mem_map, List.mem_range]
  exact ⟨fun ⟨j, a, b⟩ => ⟨j, a, b.symm⟩, fun ⟨j, a, b⟩ => ⟨j, a, b.symm⟩⟩
theorem vals_refs : ∀ l : List Addr, Vals (l.map V.ref) (l.map Value.ref)
  | [] => .nil
  | _ :: l => .cons rfl (vals_refs l)
theorem adopt {X : Cx} {pins : List (Addr × Obj)} {σ : L2.St} {H : Hp} {s : Shared} {h2 : Heap} {tk : Nat} {xs ys : List V} {k1 k2 : SK} {us ws : Array Value} {S : Nat} (I : L2.Inv X pins σ H s) (hz : (xs.zip ys).length ≤ sizeLine)
    (rx : ∀ i x v, xs[i]? = some x → PK k1 us i v → RelV x v) (ry : ∀ i x v, ys[i]? = some x → PK k2 ws i v → RelV x v) (kp : ∀ b o, s.heap.get? b = some o → h2.get? b = some o) (hS : s.heap.objs.size ≤ S)
    (list : listAt h2 S (cellsFrom (S + 1) (xs.zip ys).length)) (pairs : PairsAt k1 k2 us ws (S + 1) (xs.zip ys).length h2) : L2.Inv X pins σ (withPairs H S (xs.zip ys)) { s with heap := h2, toks := tk } := by
  have low : ∀ c u, H c = some u → withPairs H S (xs.zip ys) c = some u := fun c u e => by
    rcases Nat.lt_or_ge c S with l | l
    · rw [withPairs_low l]; exact e
    · have := I.hok.fresh (Nat.le_trans hS l)
      rw [this] at e; cases e
  refine I.un ⟨fun b o q _ _ _ => kp b o q, fun b o q _ _ _ => ⟨o.slots, kp b o q⟩, fun b o q n _ => ?_, fun b o q _ => ⟨o, kp b o q⟩, fun b _ q => low b _ q, fun b _ _ q => low b _ q, fun b ps q => ⟨#[], by rw [low b _ q]; simp⟩⟩ fun b u q => ?_
  · rw [withPairs_low (Nat.lt_of_lt_of_le (Heap.lt_size q) hS)]; exact n
  · rcases withPairs_some q with q | ⟨rfl, rfl⟩ | ⟨j, p, rfl, e, rfl⟩
    · exact (I.hok b u q).stay (fun d v _ => kp d v) (fun d => low d _) fun d zs => low d _
    · obtain ⟨c, l⟩ := list
      exact ⟨by simpa [cellsFrom] using hz, _, c, vals_refs _, l⟩
    · obtain ⟨hj, -⟩ := List.getElem?_eq_some_iff.mp e
      obtain ⟨x, y, a, b, made⟩ := pairs j hj
      obtain ⟨e1, e2⟩ := List.getElem?_zip_eq_some.mp e
      exact ⟨by show 2 ≤ sizeLine; decide, [x, y], .cons (rx j _ x e1 a) (.cons (ry j _ y e2 b) .nil), ⟨_, made, rfl, _, rfl⟩⟩
section
variable {X : Cx} {e e2 : Expr} {ta : TA} {p pz pos cpos : Pos}
def rListZip : List V → Hp → VK → Prop := fun vs H Q => ∃ (k1 k2 : SK) (xs ys : List V), vs = [k1.v, k2.v] ∧ SqK k1 H xs ∧ SqK k2 H ys ∧
  ∀ (H' : Hp) (p : Addr) (ts : List Addr), (∀ b o, H b = some o → H' b = some o) → H p = none → (∀ t ∈ ts, H t = none) → p ∉ ts → H' p = some (.lst (ts.map V.ref)) → ts.length = min xs.length ys.length →
    (∀ (j : Nat) (t : Addr), ts[j]? = some t → ∃ x y, xs[j]? = some x ∧ ys[j]? = some y ∧ H' t = some (.tup [x, y])) → Q (.ref p) H'
theorem pe_listZip (hc : X.calm = true) (hg : Gl X "list") (hm : X.mg "list" = none) (hgz : Gl X "zip") (hmz : X.mg "zip" = none) (ha : PA X [e, e2] ta) (hsz : starEach [e, e2] X.env = (false, eval e X.env) :: starEach [e2] X.env) (hplz : (backTo cpos (starEach [e2] X.env)).any (·.1) = false)
    (hs : starEach [.Call (.Name "zip" pz) [e, e2] [] cpos] X.env = (false, eval (.Call (.Name "zip" pz) [e, e2] [] cpos) X.env) :: starEach [] X.env) :
    PE X (.Call (.Name "list" p) [.Call (.Name "zip" pz) [e, e2] [] cpos] [] pos) (tCB rListZip ta) := by
  refine ⟨fun pins s σ H Q I hq => ?_⟩
  refine wpAny_Call_Name_kw (ld_blt I hg hm PV.bt_list ?_)
  refine PyProof.Rows.callWith_type1 ?_ hs rfl
  rw [hs]
  show wpAny _ _ (spliced ((false, eval (.Call (.Name "zip" pz) [e, e2] [] cpos) X.env) :: backTo pos (starEach [] X.env))) _ _ s
  refine Calls.spliced_cons ?_
  refine Call_ (ld_blt I hgz hmz PyProof.Rows.boot_zip (PyProof.Rows.callWith_type1 (thn (ha.run cpos pins s σ H _ I hq) fun us s1 ⟨vs, H1, I1, r1, k1, k2, xs, ys, ex, hqx, hqy, q⟩ => ?_) hsz hplz))
  subst ex
  obtain ⟨u, w, hu, ru, rw'⟩ := valsK2 r1
  subst hu
  obtain ⟨tk1, rfl⟩ := SK.val_of ru
  obtain ⟨tk2, rfl⟩ := SK.val_of rw'
  obtain ⟨its, rel, l1, sq, hz⟩ := seqK I1 hqx
  obtain ⟨its2, rel2, l2, sq2, hz2⟩ := seqK I1 hqy
  refine zip_begins2 (beginsK (k := k1) (t := tk1) (its := its)) (beginsK (k := k2) (t := tk2) (its := its2)) sq sq2 fun h' z1 z2 z3 z4 z5 hsz hk => ?_
  have old1 := sq.lt
  have old2 := sq2.lt
  have out : ∀ {k : SK} (i : Nat), (∀ c ∈ baseK k, c < s1.heap.objs.size) → s1.heap.objs.size + i ∉ baseK k := fun i old hm => absurd (old _ hm) (Nat.not_lt.mpr (Nat.le_add_right _ _))
  have ends : h'.objs.size = s1.heap.objs.size + 5 := by assumption
  have L : ListSep h'.objs.size (s1.heap.objs.size + 4) (s1.heap.objs.size + 2) (s1.heap.objs.size + 3) s1.heap.objs.size (s1.heap.objs.size + 1) k1 k2 := by
    rw [ends]
    refine ⟨zip_sep2 old1 old2, out 0 old1, out 1 old2, ?_, out 5 old1, out 5 old2⟩
    generalize s1.heap.objs.size = N
    simp only [List.mem_cons, List.not_mem_nil, or_false, not_or]
    have := fun (n i : Nat) (h : i < 5) => show n + 5 ≠ n + i by omega
    exact ⟨this N 4 (by decide), this N 2 (by decide), this N 3 (by decide), this N 0 (by decide), this N 1 (by decide)⟩
  have low : ∀ c ∈ [h'.objs.size, s1.heap.objs.size + 4, s1.heap.objs.size + 3, s1.heap.objs.size, s1.heap.objs.size + 1], s1.heap.objs.size ≤ c ∧ c < h'.objs.size + 1 := by
    rw [ends]
    generalize s1.heap.objs.size = N
    intro c hc
    simp only [List.mem_cons, List.not_mem_nil, or_false] at hc
    have := fun (n i : Nat) (h : i ≤ 5) => show n ≤ n + i ∧ n + i < n + 5 + 1 by omega
    rcases hc with h | h | h | h | h <;> rw [h]
    · exact this N 5 (by decide)
    · exact this N 4 (by decide)
    · exact this N 3 (by decide)
    · exact this N 0 (by decide)
    · exact this N 1 (by decide)
  have len : (xs.zip ys).length = min its.size its2.size := by rw [List.length_zip, l1, l2]
  have fits : (xs.zip ys).length ≤ sizeLine := by rw [List.length_zip]; omega
  refine Calls.spliced_nil ?_
  refine list_unhinted (s := { s1 with heap := h' }) (T := "zip") z1 rfl zl_nolen zl_nohint (by decide) (by decide) (fun q k => wpAny_pyIter_zip q k) fun h keep sz l => ?_
  refine listed_loop (s := { s1 with heap := h' }) (A := X.A.in1) (t1 := tk1) (t2 := tk2) (xs := its) (ys := its2) (lo := h'.objs.size + 1) (n := (xs.zip ys).length) (h0 := h') (I1.ok.hd hc) L (fun c hc => (low c hc).2) len fits (fun h2 tk kp list pairs => ⟨rfl, ?_⟩)
    _ 0 h _ (Nat.zero_add _) ⟨keep _ _ z2, ⟨(iterK_new z4).at (keep _), (sq.keep hk).keep keep⟩, ⟨(iterK_new z5).at (keep _), (sq2.keep hk).keep keep⟩, .inl ⟨keep _ _ z1, _, _, keep _ _ z3⟩⟩ (fun b o _ q => keep b o q) sz l fun j hj => absurd hj (Nat.not_lt_zero _)
  have over : s1.heap.objs.size ≤ h'.objs.size := (low _ (by simp)).1
  have kp1 : ∀ b o, s1.heap.get? b = some o → h2.get? b = some o := fun b o q => kp b o (fun e => absurd (Heap.lt_size q) (Nat.not_lt.mpr (low b e).1)) (hk b o q)
  have J := adopt (tk := tk) (S := h'.objs.size) I1 fits rel rel2 kp1 over list pairs
  refine ⟨.ref _, _, J, rfl, q _ _ (cellsFrom (h'.objs.size + 1) (xs.zip ys).length) (fun b o e => ?_) (I1.hok.fresh over) (fun t ht => ?_) (fun e => ?_) withPairs_self (by rw [← List.length_zip]; simp [cellsFrom]) fun j t e => ?_⟩
  · rw [withPairs_low]
    · exact e
    · exact Nat.lt_of_not_le fun le => by rw [I1.hok.fresh (Nat.le_trans over le)] at e; cases e
  · obtain ⟨j, _, rfl⟩ := mem_cells.mp ht
    exact I1.hok.fresh (Nat.le_trans over (Nat.le_trans (Nat.le_succ _) (Nat.le_add_right _ _)))
  · obtain ⟨j, _, e⟩ := mem_cells.mp e
    exact absurd e (Nat.ne_of_lt (Nat.lt_of_lt_of_le (Nat.lt_succ_self _) (Nat.le_add_right _ _)))
  · have hj : j < (xs.zip ys).length := by
      have := (List.getElem?_eq_some_iff.mp e).1
      simpa [cellsFrom] using this
    have et : t = h'.objs.size + 1 + j := by
      rw [cellsFrom, List.getElem?_map, List.getElem?_range hj] at e
      exact (Option.some.inj e).symm
    subst et
    obtain ⟨e1, e2⟩ := List.getElem?_zip_eq_some.mp (List.getElem?_eq_getElem hj)
    exact ⟨_, _, e1, e2, withPairs_at (List.getElem?_eq_getElem hj)⟩
/-- list(zip(a, b)) -/
def oListZip (vs : List Val) : Res (Val × Bool) := match zipVs vs with
  | some l => .ok (.lst l, true)
  | none => .bad
theorem rpl_of {K : PySem.W.Frag} {H : Hp} {A : AP} : ∀ {vs : List Val} {xs : List V}, vs.length = xs.length → (∀ (j : Nat) (v : Val) (x : V), vs[j]? = some v → xs[j]? = some x → Rp K H A v x) → RpL K H A vs xs
  | [], [], _, _ => RpL.nil
  | [], _ :: _, h, _ => by cases h
  | _ :: _, [], h, _ => by cases h
  | v :: vs, x :: xs, h, k => rpl_cc.mpr ⟨k 0 v x rfl rfl, rpl_of (Nat.succ.inj h) fun j u y e1 e2 => k (j + 1) u y (by simpa using e1) (by simpa using e2)⟩
theorem s_listZip {K : PySem.W.Frag} : OpSL K rListZip oListZip := fun H A vs xs al l => by
  unfold oListZip
  match vs, l with
  | [], _ => exact bad_ans
  | [_], _ => exact bad_ans
  | _ :: _ :: _ :: _, _ => exact bad_ans
  | [v, w], l =>
    rw [rpl_cons] at l; obtain ⟨x, r, rfl, h1, l⟩ := l
    rw [rpl_cons] at l; obtain ⟨y, r, rfl, h2, l⟩ := l
    rw [rpl_nil] at l; subst l
    simp only [zipVs]
    cases e : seqKV v with
    | none => exact bad_ans
    | some vs1 =>
      cases e' : seqKV w with
      | none => exact bad_ans
      | some vs2 =>
        obtain ⟨k1, us, rfl, na, ha, la, za⟩ := seqKV_rp e h1
        obtain ⟨k2, ws, rfl, nb, hb, lb, zb⟩ := seqKV_rp e' h2
        refine fun Q q => ⟨k1, k2, us, ws, rfl, ha, hb, fun H' p ts k1 k2 k3 k4 k5 k6 k7 => q _ _ k1 ?_⟩
        have st : Stay H A H' (or' A (· = p)) := fun c o e n => ⟨k1 c o e, fun z => z.elim n fun z => by subst z; rw [k2] at e; cases e⟩
        have len : (zipD vs1 vs2).length = ts.length := by unfold zipD; rw [List.length_zipWith, k6, la.length, lb.length]
        refine ⟨p, rfl, k2, _, k5, rpl_of (by rw [List.length_map]; exact len) fun j u x e1 e2 => ?_, by rw [len, k6, la.length]; omega⟩
        rw [List.getElem?_map] at e2
        cases et : ts[j]? with
        | none => rw [et] at e2; cases e2
        | some t =>
          rw [et] at e2; cases e2
          obtain ⟨x, y, f1, f2, f3⟩ := k7 j t et
          obtain ⟨v1, g1, r1⟩ := la.get' f1
          obtain ⟨v2, g2, r2⟩ := lb.get' f2
          unfold zipD at e1
          rw [List.getElem?_zipWith, g1, g2] at e1
          cases e1
          have tm : t ∈ ts := List.mem_of_getElem? et
          refine rp_tup.mpr ⟨t, _, rfl, fun z => z.elim (fun z => al t z (k3 t tm)) fun z => k4 (z ▸ tm), f3, rpl_cc.mpr ⟨Rp.stay st _ _ r1, RpL.one (Rp.stay st _ _ r2)⟩, by show 2 ≤ sizeLine; decide⟩
theorem v_listZip {G : Cfg} {ds : List ED} (hm : X.mg "list" = none) (hmz : X.mg "zip" = none) (ha : PA X [e, e2] (tL G ds)) (hc : X.calm = true := by rfl) (hg : Gl X "list" := by rfl) (hgz : Gl X "zip" := by rfl) (hsz : starEach [e, e2] X.env = (false, eval e X.env) :: starEach [e2] X.env := by rfl) (hplz : (backTo cpos (starEach [e2] X.env)).any (·.1) = false := by rfl)
    (hs : starEach [.Call (.Name "zip" pz) [e, e2] [] cpos] X.env = (false, eval (.Call (.Name "zip" pz) [e, e2] [] cpos) X.env) :: starEach [] X.env := by rfl) :
    PE X (.Call (.Name "list" p) [.Call (.Name "zip" pz) [e, e2] [] cpos] [] pos) (tE G (dCB oListZip ds)) := (pe_listZip hc hg hm hgz hmz ha hsz hplz hs).pv fun σ H Q h => tE_CB s_listZip h
end
end PV

namespace PV
open PySem PySem.Spec PyProof.Rows L2
open EV (enc)
section
variable {α β : Type}
/-- comprehensions whose walked thing changes no name -/
theorem lcM {own : List Nat} {it : ID} {g : GD} {t : TD} {elt : ED} {env : EnvD} (xs : List α) (e f : α → Val) (hit : it env = .ok (xs.map e, env)) (hlen : xs.length ≤ sizeLine) (h : ∀ x ∈ xs, (lcStep g t elt (e x) (wipeD env own)).Is fun z => z.1 = some (f x) ∧ wipeD z.2 own = wipeD env own) (hno : noOwn env own = true)
    (hb : backD env (wipeD env own) own = env) : dLc own it g t elt env = .ok (.lst (xs.map f), true, env) := lc_map (env1 := env) xs e f hit hno hlen h hb
theorem lcF {own : List Nat} {it : ID} {g : GD} {t : TD} {elt : ED} {env : EnvD} (xs : List α) (e f : α → Val) (p : α → Bool) (hit : it env = .ok (xs.map e, env)) (hlen : xs.length ≤ sizeLine) (h : ∀ x ∈ xs, (lcStep g t elt (e x) (wipeD env own)).Is fun z => z.1 = (if p x then some (f x) else none) ∧ wipeD z.2 own = wipeD env own) (hno : noOwn env own = true)
    (hb : backD env (wipeD env own) own = env) : dLc own it g t elt env = .ok (.lst ((xs.filter p).map f), true, env) := lc_filter (env1 := env) xs e f p hit hno hlen h hb
end
/-! ### a datum told by a look -/
mutual
def sameV : Val → Val → Bool
  | .non, .non => true
  | .bl a, .bl b => a == b
  | .int a, .int b => decide (a = b)
  | .str a, .str b => decide (a.cps.toList = b.cps.toList)
  | .ty a, .ty b => decide (a = b)
  | .tup vs, .tup ws => sameVs vs ws
  | .lst vs, .lst ws => sameVs vs ws
  | _, _ => false
def sameVs : List Val → List Val → Bool
  | [], [] => true
  | v :: vs, w :: ws => sameV v w && sameVs vs ws
  | _, _ => false
end
mutual
theorem sameV_eq : ∀ (v w : Val), sameV v w = true → v = w
  | .non, w, h => by cases w <;> simp_all [sameV]
  | .bl a, w, h => by cases w <;> simp_all [sameV]
  | .int a, w, h => by cases w <;> simp_all [sameV]
  | .str a, w, h => by
    cases w <;> simp_all [sameV]
    rename_i b
    cases a; cases b; simp_all
  | .ty a, w, h => by cases w <;> simp_all [sameV]
  | .tup vs, w, h => by
    cases w <;> simp [sameV] at h
    rw [sameVs_eq vs _ h]
  | .lst vs, w, h => by
    cases w <;> simp [sameV] at h
    rw [sameVs_eq vs _ h]
  | .glo _, w, h => by cases w <;> simp [sameV] at h
  | .scr _, w, h => by cases w <;> simp [sameV] at h
  | .rng _ _, w, h => by cases w <;> simp [sameV] at h
  | .dK _, w, h => by cases w <;> simp [sameV] at h
  | .dT _, w, h => by cases w <;> simp [sameV] at h
theorem sameVs_eq : ∀ (vs ws : List Val), sameVs vs ws = true → vs = ws
  | [], ws, h => by cases ws <;> simp_all [sameVs]
  | v :: vs, [], h => by simp [sameVs] at h
  | v :: vs, w :: ws, h => by
    simp only [sameVs, Bool.and_eq_true] at h
    rw [sameV_eq v w h.1, sameVs_eq vs ws h.2]
end
/-- a closed result, by the kernel's own reckoning -/
def isRes (r : Res (Val × Bool)) (v : Val) (o : Bool) : Bool := match r with
  | .ok (u, p) => sameV u v && p == o
  | _ => false
theorem isRes_eq {r : Res (Val × Bool)} {v : Val} {o : Bool} (h : isRes r v o = true) : r = .ok (v, o) := by
  unfold isRes at h
  split at h
  · rw [Bool.and_eq_true] at h
    rw [sameV_eq _ _ h.1]
    have := h.2
    simp at this
    rw [this]
  · cases h
end PV

namespace Lf
open PySem PySem.Spec PyProof.Rows L2 PV
open PySem.W (minD maxD dataLt)
/-- is_integer(thing): 0 thing -/
def d_is_integer : SD := (sRet (dAndV (dCB (on2 oIsi) [(dVar 0), (dC (.ty "int"))]) (dUn oNot (dCB (on2 oIsi) [(dVar 0), (dC (.ty "bool"))]))))
def F_is_integer : Fn := runF 1 1 d_is_integer
/-- is_within(thing, low, high): 0 thing 1 low 2 high -/
def d_is_within : SD := (sRet (dAndV (dCB F_is_integer [(dVar 0)]) (dChain oLe oLe (dVar 1) (dVar 0) (dVar 2))))
def F_is_within : Fn := runF 3 3 d_is_within
/-- is_sized(thing, low, high): 0 thing 1 low 2 high -/
def d_is_sized : SD := (sRet (dAndV (dCB (on2 oIsi) [(dVar 0), (dC (.ty "tuple"))]) (dChain oLe oLe (dVar 1) (dCBS oLen 0) (dVar 2))))
def F_is_sized : Fn := runF 3 3 d_is_sized
/-- check_words(words): 0 words 1 one -/
def d_check_words : SD := (sIf (dOrT (dNotT (dTru (dCB F_is_sized [(dVar 0), (dC (.int 1)), (dC (.int 14))]))) (dNotT (dTru (dCB (on1 oAll) [(dLc [1] (iVal (dVar 0)) (gN 1) dYes (dCB F_is_within [(dVar 1), (dC (.int 1)), (dC (.int 12))]))])))) sNo sNil)
def F_check_words : Fn := runF 2 1 d_check_words
/-- check_page(words, w): 0 words 1 w -/
def d_check_page : SD := (sSeq (sExpr (dCB F_check_words [(dVar 0)]))
    (sIf (dNotT (dTru (dCB F_is_within [(dVar 1), (dC (.int 1)), (dC (.int 30))]))) sNo sNil))
def F_check_page : Fn := runF 2 2 d_check_page
/-- room_of(words, w, begin, end): 0 words 1 w 2 begin 3 end -/
def d_room_of : SD := (sRet (dBin oSub (dBin oSub (dVar 1) (dCB (on1 oSum) [(dSl (dVar 0) (pSome (dVar 2)) (pSome (dVar 3)))])) (dBin oSub (dBin oSub (dVar 3) (dVar 2)) (dC (.int 1)))))
def F_room_of : Fn := runF 4 4 d_room_of
/-- full_setting(words, w): 0 words 1 w 2 found 3 number -/
def d_full_setting : SD := (sSeq (sOwn (dLst [(dC (.int 0))]) 2)
    (sSeq (sFor (iRng [(dC (.int 1)), (dCBS oLen 0)]) (gN 3) (sIf (dTB (dBin oLt (dCB F_room_of [(dVar 0), (dVar 1), (dIxS 2 (dUn oNeg (dC (.int 1)))), (dBin oAdd (dVar 3) (dC (.int 1)))]) (dC (.int 0)))) (sExpr (dApp 2 (dVar 3))) sNil))
    (sRet (dCBS oTuple 2))))
def F_full_setting : Fn := runF 4 2 d_full_setting
/-- line_price(words, w, begin, end): 0 words 1 w 2 begin 3 end -/
def d_line_price : SD := (sSeq (sIf (dTB (dBin oEq (dVar 3) (dCBS oLen 0))) (sRet (dC (.int 0))) sNil)
    (sRet (dBin oMul (dCB F_room_of [(dVar 0), (dVar 1), (dVar 2), (dVar 3)]) (dCB F_room_of [(dVar 0), (dVar 1), (dVar 2), (dVar 3)]))))
def F_line_price : Fn := runF 4 4 d_line_price
/-- least_settings(words, w): 0 words 1 w 2 found 3 begin 4 some 5 end 6 price 7 later -/
def d_least_settings : SD := (sSeq (sOwn (dBin oAdd (dBin oMul (dLst [(dC .non)]) (dCBS oLen 0)) (dLst [(dTup [(dC (.int 0)), (dTup [])])])) 2)
    (sSeq (sFor (iRng [(dBin oSub (dCBS oLen 0) (dC (.int 1))), (dUn oNeg (dC (.int 1))), (dUn oNeg (dC (.int 1)))]) (gN 3) (sSeq (sOwn (dLst []) 4)
    (sSeq (sFor (iRng [(dBin oAdd (dVar 3) (dC (.int 1))), (dBin oAdd (dCBS oLen 0) (dC (.int 1)))]) (gN 5) (sIf (dAndT (dTB (dBin oGe (dCB F_room_of [(dVar 0), (dVar 1), (dVar 3), (dVar 5)]) (dC (.int 0)))) (dTB (dBin oIsNot (dIxS 2 (dVar 5)) (dC .non)))) (sSeq (sAsg (dIxS 2 (dVar 5)) (gT 2 (gsCons (gN 6) (gsCons (gN 7) gsNil))))
    (sExpr (dApp 4 (dTup [(dBin oAdd (dCB F_line_price [(dVar 0), (dVar 1), (dVar 3), (dVar 5)]) (dVar 6)), (dBin oAdd (dTup [(dVar 3)]) (dVar 7))])))) sNil))
    (sSet 2 (dVar 3) (dIf (dTB (dBin oGt (dCBS oLen 4) (dC (.int 0)))) (dCBS (oBest minV) 4) (dC .non))))))
    (sRet (dVar 2))))
def F_least_settings : Fn := runF 8 2 d_least_settings
/-- prices_of(words, w): 0 words 1 w 2 told -/
def d_prices_of : SD := (sSeq (sExpr (dCB F_check_page [(dVar 0), (dVar 1)]))
    (sRet (dCB (on1 oTuple) [(dLc [2] (iVal (dCB F_least_settings [(dVar 0), (dVar 1)])) (gN 2) dYes (dIf (dTB (dBin oIs (dVar 2) (dC .non))) (dC .non) (dIxS 2 (dC (.int 0)))))])))
def F_prices_of : Fn := runF 3 2 d_prices_of
/-- are_bound(words, w, prices): 0 words 1 w 2 prices 3 many 4 begin 5 end 6 one -/
def d_are_bound : SD := (sSeq (sExpr (dCB F_check_page [(dVar 0), (dVar 1)]))
    (sSeq (sOwn (dBin oAdd (dCBS oLen 0) (dC (.int 1))) 3)
    (sSeq (sIf (dOrT (dNotT (dTru (dCB F_is_sized [(dVar 2), (dVar 3), (dVar 3)]))) (dNotT (dTru (dCB (on1 oAll) [(dLc [6] (iVal (dVar 2)) (gN 6) dYes (dCB F_is_within [(dVar 6), (dC (.int 0)), (dC (.int 100000))]))])))) sNo sNil)
    (sSeq (sIf (dTB (dBin oNe (dIxS 2 (dUn oNeg (dC (.int 1)))) (dC (.int 0)))) (sRet (dC (.bl false))) sNil)
    (sSeq (sFor (iRng [(dCBS oLen 0)]) (gN 4) (sFor (iRng [(dBin oAdd (dVar 4) (dC (.int 1))), (dBin oAdd (dCBS oLen 0) (dC (.int 1)))]) (gN 5) (sIf (dAndT (dTB (dBin oGe (dCB F_room_of [(dVar 0), (dVar 1), (dVar 4), (dVar 5)]) (dC (.int 0)))) (dTB (dBin oGt (dIxS 2 (dVar 4)) (dBin oAdd (dCB F_line_price [(dVar 0), (dVar 1), (dVar 4), (dVar 5)]) (dIxS 2 (dVar 5)))))) (sRet (dC (.bl false))) sNil)))
    (sRet (dC (.bl true))))))))
def F_are_bound : Fn := runF 7 3 d_are_bound
/-- least_width(words, lines): 0 words 1 lines 2 w -/
def d_least_width : SD := (sSeq (sExpr (dCB F_check_words [(dVar 0)]))
    (sSeq (sIf (dNotT (dTru (dCB F_is_within [(dVar 1), (dC (.int 1)), (dC (.int 14))]))) sNo sNil)
    (sSeq (sOwn (dCBS (oBest maxV) 0) 2)
    (sSeq (sWhile 200 (dTB (dBin oGt (dCB (on1 oLen) [(dCB F_full_setting [(dVar 0), (dVar 2)])]) (dVar 1))) (sAug 2 (fun i j => i + j) (dC (.int 1))))
    (sRet (dVar 2))))))
def F_least_width : Fn := runF 3 2 d_least_width
/-- setting_count(words, w): 0 words 1 w 2 found 3 begin 4 some 5 end -/
def d_setting_count : SD := (sSeq (sExpr (dCB F_check_page [(dVar 0), (dVar 1)]))
    (sSeq (sOwn (dBin oAdd (dBin oMul (dLst [(dC (.int 0))]) (dCBS oLen 0)) (dLst [(dC (.int 1))])) 2)
    (sSeq (sFor (iRng [(dBin oSub (dCBS oLen 0) (dC (.int 1))), (dUn oNeg (dC (.int 1))), (dUn oNeg (dC (.int 1)))]) (gN 3) (sSeq (sOwn (dCB oRange [(dBin oAdd (dVar 3) (dC (.int 1))), (dBin oAdd (dCBS oLen 0) (dC (.int 1)))]) 4)
    (sSet 2 (dVar 3) (dCB (on1 oSum) [(dLc [5] (iVal (dVar 4)) (gN 5) (dTB (dBin oGe (dCB F_room_of [(dVar 0), (dVar 1), (dVar 3), (dVar 5)]) (dC (.int 0)))) (dIxS 2 (dVar 5)))]))))
    (sRet (dIxS 2 (dC (.int 0)))))))
def F_setting_count : Fn := runF 6 2 d_setting_count
/-- full_lines(words, w): 0 words 1 w 2 found 3 begin 4 some 5 end 6 room -/
def d_full_lines : SD := (sSeq (sExpr (dCB F_check_page [(dVar 0), (dVar 1)]))
    (sSeq (sOwn (dBin oAdd (dBin oMul (dLst [(dC .non)]) (dCBS oLen 0)) (dLst [(dC (.int 0))])) 2)
    (sSeq (sFor (iRng [(dBin oSub (dCBS oLen 0) (dC (.int 1))), (dUn oNeg (dC (.int 1))), (dUn oNeg (dC (.int 1)))]) (gN 3) (sSeq (sOwn (dLst []) 4)
    (sSeq (sFor (iRng [(dBin oAdd (dVar 3) (dC (.int 1))), (dBin oAdd (dCBS oLen 0) (dC (.int 1)))]) (gN 5) (sSeq (sOwn (dCB F_room_of [(dVar 0), (dVar 1), (dVar 3), (dVar 5)]) 6)
    (sIf (dAndT (dTB (dBin oGe (dVar 6) (dC (.int 0)))) (dTB (dBin oIsNot (dIxS 2 (dVar 5)) (dC .non)))) (sExpr (dApp 4 (dBin oAdd (dIxS 2 (dVar 5)) (dCB (on1 oInt) [(dBin oEq (dVar 6) (dC (.int 0)))])))) sNil)))
    (sSet 2 (dVar 3) (dIf (dTB (dBin oGt (dCBS oLen 4) (dC (.int 0)))) (dCBS (oBest maxV) 4) (dC .non))))))
    (sRet (dIxS 2 (dC (.int 0)))))))
def F_full_lines : Fn := runF 7 2 d_full_lines
/-- _law_hand(script): 0 script 1 cells 2 cell -/
def d__law_hand : SD := (sSeq (sOwn (dLc [2] (iVal (dSl (dVar 0) pNone (pSome (dC (.int 63))))) (gN 2) dYes (dCB (on1 oAbs) [(dCB (on1 oInt) [(dVar 2)])])) 1)
    (sRet (dLst [(dVar 1), (dC (.int 0)), (dC (.int 0)), (dBin oAdd (dC (.int 83)) (dBin oMul (dC (.int 5)) (dCBS oLen 1))), (dC (.int 0))])))
def F__law_hand : Fn := runF 3 1 d__law_hand
/-- _law_draw(hand, many): 0 hand 1 many 2 number 3 cell 4 digit -/
def d__law_draw : SD := (sSeq (sIf (dAndT (dTB (dBin oEq (dIxS 0 (dC (.int 2))) (dC (.int 0)))) (dTB (dBin oLt (dIxS 0 (dC (.int 1))) (dCB (on1 oLen) [(dIxS 0 (dC (.int 0)))])))) (sSeq (sOwn (dBin oIx (dIxS 0 (dC (.int 0))) (dIxS 0 (dC (.int 1)))) 3)
    (sSeq (sSet 0 (dC (.int 1)) (dBin oAdd (dIxS 0 (dC (.int 1))) (dC (.int 1))))
    (sSeq (sSet 0 (dC (.int 3)) (dBin oMod (dCB (on1 oInt) [(dBin oAdd (dBin oAdd (dBin oMul (dIxS 0 (dC (.int 3))) (dC (.int 48271))) (dBin oMul (dVar 3) (dC (.int 5)))) (dC (.int 29)))]) (dC (.int 2147483587))))
    (sSet 0 (dC (.int 2)) (dIf (dTB (dBin oGe (dVar 3) (dBin oPow (dC (.int 10)) (dC (.int 18))))) (dVar 3) (dC (.int 0))))))) sNil)
    (sSeq (sIf (dTB (dBin oGt (dIxS 0 (dC (.int 2))) (dC (.int 0)))) (sSeq (sOwn (dBin oMod (dCB (on1 oInt) [(dIxS 0 (dC (.int 2)))]) (dVar 1)) 4)
    (sSeq (sSet 0 (dC (.int 2)) (dBin oDiv (dIxS 0 (dC (.int 2))) (dVar 1)))
    (sRetF (dVar 4)))) sNil)
    (sSeq (sSet 0 (dC (.int 4)) (dBin oAdd (dIxS 0 (dC (.int 4))) (dC (.int 1))))
    (sSeq (sOwn (dBin oMod (dCB (on1 oInt) [(dBin oMul (dCB (on1 oInt) [(dBin oAdd (dIxS 0 (dC (.int 3))) (dBin oMul (dC (.int 7877)) (dIxS 0 (dC (.int 4)))))]) (dC (.int 69621)))]) (dC (.int 2147483647))) 2)
    (sSeq (sOwn (dBin oMod (dCB (on1 oInt) [(dBin oMul (dVar 2) (dBin oAdd (dBin oDiv (dVar 2) (dC (.int 1103))) (dC (.int 40692))))]) (dC (.int 2147483399))) 2)
    (sSeq (sOwn (dBin oMod (dCB (on1 oInt) [(dBin oMul (dVar 2) (dBin oAdd (dBin oDiv (dVar 2) (dC (.int 2311))) (dC (.int 48271))))]) (dC (.int 2147483629))) 2)
    (sRetF (dBin oMod (dCB (on1 oInt) [(dBin oDiv (dVar 2) (dC (.int 16)))]) (dVar 1)))))))))
def F__law_draw : FnH := runH 5 2 d__law_draw
/-- _law_some(hand, things): 0 hand 1 things -/
def d__law_some : SD := (sRetF (dIxS 1 (dCallH F__law_draw 0 [(dCBS oLen 1)])))
def F__law_some : FnH := runH 2 2 d__law_some
/-- _law_words(hand, most): 0 hand 1 most 2 word -/
def d__law_words : SD := (sRetF (dCB (on1 oTuple) [(dLc [2] (iRng [(dBin oAdd (dC (.int 1)) (dCallH F__law_draw 0 [(dVar 1)]))]) (gN 2) dYes (dBin oAdd (dC (.int 1)) (dCallH F__law_draw 0 [(dCallH F__law_some 0 [(dLst [(dC (.int 4)), (dC (.int 12))])])])))]))
def F__law_words : FnH := runH 3 2 d__law_words
/-- _law_long(words, first, behind): 0 words 1 first 2 behind -/
def d__law_long : SD := (sRet (dBin oSub (dBin oSub (dBin oAdd (dCB (on1 oSum) [(dSl (dVar 0) (pSome (dVar 1)) (pSome (dVar 2)))]) (dVar 2)) (dVar 1)) (dC (.int 1))))
def F__law_long : Fn := runF 3 3 d__law_long
/-- _law_settings(words, w): 0 words 1 w 2 found 3 rows 4 turn 5 longer 6 row 7 at -/
def d__law_settings : SD := (sSeq (sOwn (dLst []) 2)
    (sSeq (sOwn (dLst [(dTup [(dC (.int 0))])]) 3)
    (sSeq (sFor (iRng [(dCBS oLen 0)]) (gN 4) (sSeq (sOwn (dLst []) 5)
    (sSeq (sFor (iVal (dVar 3)) (gN 6) (sSeq (sIf (dTB (dBin oLe (dCB F__law_long [(dVar 0), (dIxS 6 (dUn oNeg (dC (.int 1)))), (dCBS oLen 0)]) (dVar 1))) (sExpr (dApp 2 (dVar 6))) sNil)
    (sExpr (dExt 5 (dLc [7] (iRng [(dBin oAdd (dIxS 6 (dUn oNeg (dC (.int 1)))) (dC (.int 1))), (dCBS oLen 0)]) (gN 7) (dTB (dBin oLe (dCB F__law_long [(dVar 0), (dIxS 6 (dUn oNeg (dC (.int 1)))), (dVar 7)]) (dVar 1))) (dBin oAdd (dVar 6) (dTup [(dVar 7)])))))))
    (sOwn (dVar 5) 3))))
    (sRet (dCBS oSorted 2)))))
def F__law_settings : Fn := runF 8 2 d__law_settings
/-- _law_price(words, w, begins): 0 words 1 w 2 begins 3 rooms 4 first 5 behind 6 room -/
def d__law_price : SD := (sSeq (sOwn (dLc [4, 5] (iOf zipVs [(dVar 2), (dSl (dVar 2) (pSome (dC (.int 1))) pNone)]) (gT 2 (gsCons (gN 4) (gsCons (gN 5) gsNil))) dYes (dBin oSub (dVar 1) (dCB F__law_long [(dVar 0), (dVar 4), (dVar 5)]))) 3)
    (sRet (dCB (on1 oSum) [(dLc [6] (iVal (dVar 3)) (gN 6) dYes (dBin oMul (dVar 6) (dVar 6)))])))
def F__law_price : Fn := runF 7 3 d__law_price
/-- _law_bound(words, w, prices): 0 words 1 w 2 prices 3 many 4 first 5 behind 6 room 7 price -/
def d__law_bound : SD := (sSeq (sOwn (dCBS oLen 0) 3)
    (sSeq (sIf (dTB (dBin oNe (dIxS 2 (dUn oNeg (dC (.int 1)))) (dC (.int 0)))) (sRet (dC (.bl false))) sNil)
    (sSeq (sFor (iRng [(dVar 3)]) (gN 4) (sFor (iRng [(dBin oAdd (dVar 4) (dC (.int 1))), (dBin oAdd (dVar 3) (dC (.int 1)))]) (gN 5) (sSeq (sOwn (dBin oSub (dVar 1) (dCB F__law_long [(dVar 0), (dVar 4), (dVar 5)])) 6)
    (sSeq (sOwn (dIf (dTB (dBin oEq (dVar 5) (dVar 3))) (dC (.int 0)) (dBin oAdd (dBin oMul (dVar 6) (dVar 6)) (dIxS 2 (dVar 5)))) 7)
    (sIf (dAndT (dTB (dBin oGe (dVar 6) (dC (.int 0)))) (dTB (dBin oGt (dIxS 2 (dVar 4)) (dVar 7)))) (sRet (dC (.bl false))) sNil)))))
    (sRet (dC (.bl true))))))
def F__law_bound : Fn := runF 8 3 d__law_bound
/-- law(script): 0 script 1 hand 2 turn 3 full 4 lower 5 rows 6 prices 7 lines_now 8 wide 9 words 10 w 11 every 12 told 13 good 14 least 15 row 16 price 17 first 18 behind -/
def d_law : SD := (sSeq (sOwn (dCB F__law_hand [(dVar 0)]) 1)
    (sSeq (sIf (dTB (dBin oIsNot (dCB F_are_bound [(dTup [(dC (.int 3)), (dC (.int 2)), (dC (.int 2)), (dC (.int 5))]), (dC (.int 6)), (dTup [(dC (.int 10)), (dC (.int 1)), (dC (.int 16)), (dC (.int 0)), (dC (.int 0))])]) (dC (.bl true)))) (sRet (dC (.bl false))) sNil)
    (sSeq (sIf (dTB (dBin oIsNot (dCB F_are_bound [(dTup [(dC (.int 3)), (dC (.int 2)), (dC (.int 2)), (dC (.int 5))]), (dC (.int 6)), (dTup [(dC (.int 11)), (dC (.int 1)), (dC (.int 16)), (dC (.int 0)), (dC (.int 0))])]) (dC (.bl false)))) (sRet (dC (.bl false))) sNil)
    (sSeq (sIf (dTB (dBin oIsNot (dCB F_are_bound [(dTup [(dC (.int 3))]), (dC (.int 6)), (dTup [(dC (.int 0)), (dC (.int 1))])]) (dC (.bl false)))) (sRet (dC (.bl false))) sNil)
    (sSeq (sIf (dTB (dBin oNe (dCB F_least_width [(dTup [(dC (.int 3)), (dC (.int 2)), (dC (.int 2)), (dC (.int 5))]), (dC (.int 2))]) (dC (.int 8)))) (sRet (dC (.bl false))) sNil)
    (sSeq (sIf (dTB (dBin oNe (dCB F_least_width [(dTup [(dC (.int 3)), (dC (.int 2)), (dC (.int 2)), (dC (.int 5))]), (dC (.int 1))]) (dC (.int 15)))) (sRet (dC (.bl false))) sNil)
    (sSeq (sIf (dTB (dBin oNe (dCB F_setting_count [(dTup [(dC (.int 3)), (dC (.int 2)), (dC (.int 2)), (dC (.int 5))]), (dC (.int 6))]) (dC (.int 3)))) (sRet (dC (.bl false))) sNil)
    (sSeq (sIf (dTB (dBin oNe (dCB F_full_lines [(dTup [(dC (.int 3)), (dC (.int 2)), (dC (.int 2)), (dC (.int 5))]), (dC (.int 6))]) (dC (.int 1)))) (sRet (dC (.bl false))) sNil)
    (sSeq (sFor (iRng [(dC (.int 4))]) (gN 2) (sSeq (sAsg (dTup [(dCallH F__law_words 1 [(dC (.int 6))]), (dBin oAdd (dC (.int 1)) (dCallH F__law_draw 1 [(dC (.int 24))]))]) (gT 2 (gsCons (gN 9) (gsCons (gN 10) gsNil))))
    (sSeq (sPar 11 12 [(dCB F__law_settings [(dVar 9), (dVar 10)]), (dCB (on1 oList) [(dCB F_prices_of [(dVar 9), (dVar 10)])])])
    (sSeq (sIf (dTB (dBin oNe (dCB F_setting_count [(dVar 9), (dVar 10)]) (dCBS oLen 11))) (sRet (dC (.bl false))) sNil)
    (sSeq (sOwn (dLc [15] (iVal (dVar 11)) (gN 15) dYes (dCB (on1 oLen) [(dLc [17, 18] (iOf zipVs [(dVar 15), (dBin oAdd (dSl (dVar 15) (pSome (dC (.int 1))) pNone) (dTup [(dCBS oLen 9)]))]) (gT 2 (gsCons (gN 17) (gsCons (gN 18) gsNil))) (dTB (dBin oEq (dCB F__law_long [(dVar 9), (dVar 17), (dVar 18)]) (dVar 10))) (dC (.int 1)))])) 3)
    (sSeq (sIf (dTB (dBin oNe (dCB F_full_lines [(dVar 9), (dVar 10)]) (dIf (dTB (dBin oNe (dVar 3) (dLst []))) (dCBS (oBest maxV) 3) (dC .non)))) (sRet (dC (.bl false))) sNil)
    (sSeq (sOwn (dLc [16] (iVal (dVar 12)) (gN 16) dYes (dIf (dTB (dBin oIsNot (dVar 16) (dC .non))) (dCB (on2 oMax2) [(dC (.int 0)), (dBin oSub (dVar 16) (dCallH F__law_draw 1 [(dC (.int 3))]))]) (dCallH F__law_draw 1 [(dC (.int 9))]))) 4)
    (sSeq (sOwn (dBin oAdd (dLst [(dCB (on1 oTuple) [(dBin oMul (dLst [(dC (.int 0))]) (dCBS oLen 12))]), (dCBS oTuple 4), (dCB (on1 oTuple) [(dLc [16] (iVal (dVar 4)) (gN 16) dYes (dBin oAdd (dVar 16) (dCallH F__law_draw 1 [(dC (.int 2))])))])]) (dIf (dTB (dRS oNotIn (dC .non) 12)) (dLst [(dCBS oTuple 12)]) (dLst []))) 5)
    (sSeq (sFor (iVal (dVar 5)) (gN 6) (sSeq (sOwn (dCB F__law_bound [(dVar 9), (dVar 10), (dVar 6)]) 13)
    (sSeq (sOwn (dCB (on1 (oBest minV)) [(dBin oAdd (dLc [15] (iVal (dVar 11)) (gN 15) dYes (dCB F__law_price [(dVar 9), (dVar 10), (dVar 15)])) (dLst [(dBin oPow (dC (.int 10)) (dC (.int 9)))]))]) 14)
    (sSeq (sIf (dTB (dBin oNe (dCB F_are_bound [(dVar 9), (dVar 10), (dVar 6)]) (dVar 13))) (sRet (dC (.bl false))) sNil)
    (sIf (dAndT (dTruS 13) (dTB (dBin oGt (dIxS 6 (dC (.int 0))) (dVar 14)))) (sRet (dC (.bl false))) sNil)))))
    (sSeq (sIf (dAndT (dTB (dRS oNotIn (dC .non) 12)) (dTB (dBin oIsNot (dCB F_are_bound [(dVar 9), (dVar 10), (dCBS oTuple 12)]) (dC (.bl true))))) (sRet (dC (.bl false))) sNil)
    (sSeq (sOwn (dBin oAdd (dC (.int 1)) (dCallH F__law_draw 1 [(dC (.int 7))])) 7)
    (sSeq (sOwn (dCBS (oBest maxV) 9) 8)
    (sSeq (sWhile 200 (dAndT (dTB (dBin oGt (dCB (on1 (oBest minV)) [(dBin oAdd (dLst [(dC (.int 99))]) (dLc [15] (iVal (dCB F__law_settings [(dVar 9), (dVar 8)])) (gN 15) dYes (dCBS oLen 15)))]) (dVar 7))) (dTB (dBin oLt (dVar 8) (dC (.int 200))))) (sOwn (dBin oAdd (dVar 8) (dC (.int 1))) 8))
    (sIf (dTB (dBin oNe (dCB F_least_width [(dVar 9), (dVar 7)]) (dVar 8))) (sRet (dC (.bl false))) sNil))))))))))))))
    (sRet (dC (.bl true))))))))))))
def F_law : Fn := runF 19 1 d_law
end Lf

namespace Lf
open PySem PySem.Spec PyProof.Rows L2 PV
open EV (enc)
theorem is_integer_i (i : Int) : F_is_integer [.int i] = .ok (.bl true, false) := by simp [F_is_integer, runF, d_is_integer]
theorem is_within_i (i lo hi : Int) : F_is_within [.int i, .int lo, .int hi] = .ok (.bl (decide (lo ≤ i) && decide (i ≤ hi)), false) := by
  simp [F_is_within, runF, d_is_within, is_integer_i]
  by_cases h : lo ≤ i <;> simp [h]
theorem is_sized_t (vs : List Val) (lo hi : Int) : F_is_sized [.tup vs, .int lo, .int hi] = .ok (.bl (decide (lo ≤ (vs.length : Int)) && decide ((vs.length : Int) ≤ hi)), false) := by
  simp [F_is_sized, runF, d_is_sized]
  by_cases h : lo ≤ (vs.length : Int) <;> simp [h]
structure Wd (ws : List Int) : Prop where
  one : 1 ≤ ws.length
  few : ws.length ≤ 14
  all : ∀ x ∈ ws, 1 ≤ x ∧ x ≤ 12
theorem Wd.line {ws : List Int} (h : Wd ws) : ws.length ≤ sizeLine := by have := h.few; rw [show sizeLine = 16777216 from rfl]; omega
theorem check_words_ok {ws : List Int} (h : Wd ws) : F_check_words [.tup (ws.map enc)] = .ok (.non, false) := by
  have h1 := h.one
  have h2 := h.few
  have h3 : (ws.all fun x => decide (1 ≤ x) && decide (x ≤ 12)) = true := by
    rw [List.all_eq_true]; intro x hx; have := h.all x hx; simp [this.1, this.2]
  simp [F_check_words, runF, d_check_words, is_sized_t]
  rw [if_neg (by omega)]
  rw [lc_map (env1 := [.frz (.tup (ws.map enc)), .emp]) ws enc (fun x => .bl (decide (1 ≤ x) && decide (x ≤ 12))) (by simp) (by simp) h.line (fun x hx => by simp [is_within_i]) (by simp)]
  simp [h3]
theorem check_page_ok {ws : List Int} (h : Wd ws) {w : Int} (h1 : 1 ≤ w) (h2 : w ≤ 30) : F_check_page [.tup (ws.map enc), .int w] = .ok (.non, false) := by
  simp [F_check_page, runF, d_check_page, check_words_ok h, is_within_i, h1, h2]
/-- the words from b to e -/
def seg (ws : List Int) (b e : Nat) : List Int := (ws.drop b).take (e - b)
def room (ws : List Int) (w : Int) (b e : Nat) : Int := w - (seg ws b e).sum - ((e : Int) - b - 1)
theorem room_of_ok (ws : List Int) (w : Int) (b e : Nat) : F_room_of [.tup (ws.map enc), .int w, .int b, .int e] = .ok (.int (room ws w b e), false) := by
  simp [F_room_of, runF, d_room_of]
  rw [cut_nn]; rfl
theorem seg_bnd {ws : List Int} (h : ∀ x ∈ ws, 1 ≤ x ∧ x ≤ 12) : 0 ≤ ws.sum ∧ ws.sum ≤ 12 * ws.length := by
  induction ws with
  | nil => simp
  | cons x xs ih =>
    have h1 := h x (by simp)
    have h2 := ih fun y hy => h y (by simp [hy])
    rw [List.sum_cons, List.length_cons]; omega
theorem room_bnd {ws : List Int} (h : Wd ws) {w : Int} (h1 : 1 ≤ w) (h2 : w ≤ 300) {b e : Nat} (he : e ≤ ws.length) (hb : b ≤ ws.length) : -1000 ≤ room ws w b e ∧ room ws w b e ≤ 1000 := by
  have q := seg_bnd (ws := seg ws b e) fun x hx => h.all x (List.mem_of_mem_drop (List.mem_of_mem_take hx))
  have l : (seg ws b e).length ≤ ws.length := by unfold seg; simp; omega
  have := h.few
  unfold room; omega
def lp (ws : List Int) (w : Int) (b e : Nat) : Int := if e = ws.length then 0 else room ws w b e * room ws w b e
theorem line_price_ok (ws : List Int) (w : Int) (b e : Nat) (h : -1000 ≤ room ws w b e ∧ room ws w b e ≤ 1000) : F_line_price [.tup (ws.map enc), .int w, .int b, .int e] = .ok (.int (lp ws w b e), false) := by
  have hm : mulOk (room ws w b e) (room ws w b e) = true := by
    unfold mulOk
    rw [decide_eq_true (show (room ws w b e).natAbs < 2 ^ 64 by omega)]; rfl
  by_cases he : e = ws.length
  · simp [F_line_price, runF, d_line_price, room_of_ok, oMul_ii _ _ hm, he, lp]
  · have he' : ¬ ((e : Int) = ws.length) := by omega
    simp [F_line_price, runF, d_line_price, room_of_ok, oMul_ii _ _ hm, he, he', lp]
/-! full_setting -/
/-- the last of them -/
def last0 (l : List Nat) : Nat := l.getLast?.getD 0
def fsStep (ws : List Int) (w : Int) (found : List Nat) (k : Nat) : List Nat := if room ws w (last0 found) (k + 1) < 0 then found ++ [k] else found
def fullS (ws : List Int) (w : Int) : List Nat := (List.range' 1 (ws.length - 1)).foldl (fsStep ws w) [0]
theorem full_setting_ok {ws : List Int} (h : Wd ws) (w : Int) : F_full_setting [.tup (ws.map enc), .int w] = .ok (.tup ((fullS ws w).map enc), false) := by
  have hr := range_2 1 ws.length (by omega) (by have := h.few; omega)
  have hl : ∀ s : List Nat × Slot, (s.1 ≠ [] ∧ s.1.length ≤ 0) → False := fun s hs => by
    have := List.length_pos_iff.mpr hs.1; omega
  have key := for_inv (g := gN 3) (b := (sIf (dTB (dBin oLt (dCB F_room_of [(dVar 0), (dVar 1), (dIxS 2 (dUn oNeg (dC (.int 1)))), (dBin oAdd (dVar 3) (dC (.int 1)))]) (dC (.int 0)))) (sExpr (dApp 2 (dVar 3))) sNil))
    (Q := fun r => ∃ s, r = .nx [.frz (.tup (ws.map enc)), .frz (.int w), .own (.lst ((fullS ws w).map enc)), s])
    ((List.range' 1 (ws.length - 1)).map enc) (fun i env => ∃ s, env = [.frz (.tup (ws.map enc)), .frz (.int w), .own (.lst ((((List.range' 1 (ws.length - 1)).take i).foldl (fsStep ws w) [0]).map enc)), s] ∧ (((List.range' 1 (ws.length - 1)).take i).foldl (fsStep ws w) [0]) ≠ [] ∧ (((List.range' 1 (ws.length - 1)).take i).foldl (fsStep ws w) [0]).length ≤ i + 1)
    [.frz (.tup (ws.map enc)), .frz (.int w), .own (.lst [.int 0]), .emp] ⟨.emp, by simp, by simp, by simp⟩ ?_ ?_
  · obtain ⟨r, h1, s, h2⟩ := key.ex
    subst h2
    simp at hr
    simp [F_full_setting, runF, d_full_setting, hr]
    simp [h1]
  · rintro i hi env ⟨s, rfl, hne, hlen⟩
    simp at hi
    generalize hF : ((List.range' 1 (ws.length - 1)).take i).foldl (fsStep ws w) [0] = found at hne hlen
    have hnext : ((List.range' 1 (ws.length - 1)).take (i + 1)).foldl (fsStep ws w) [0] = fsStep ws w found (1 + i) := by
      rw [List.take_add_one, List.getElem?_range' (by omega), List.foldl_append, hF]; simp
    rw [hnext]
    obtain ⟨l, hlast⟩ : ∃ l, found.getLast? = some l := by
      cases hh : found.getLast? with
      | none => rw [List.getLast?_eq_none_iff] at hh; exact absurd hh hne
      | some l => exact ⟨l, rfl⟩
    have hD : last0 found = l := by unfold last0; rw [hlast]; rfl
    have hix : oIx (.lst (found.map enc)) (.int (-1)) = .ok (.int (l : Int), false) := oIx_l _ _ (atI_last' (by rw [List.getLast?_map, hlast]; rfl))
    have hroom := room_of_ok ws w l (1 + i + 1)
    have hsz : found.length < sizeLine := by have := h.few; rw [show sizeLine = 16777216 from rfl]; omega
    simp at hroom
    simp [hix, hroom]
    by_cases hc : room ws w l (1 + i + 1) < 0
    · simp [hc, hsz, fsStep, hD]; omega
    · simp [hc, fsStep, hD, hne]; omega
  · rintro env ⟨s, rfl, _⟩
    refine ⟨s, ?_⟩
    rw [List.take_of_length_le (by simp)]; rfl
end Lf

namespace Lf
open PySem PySem.Spec PyProof.Rows L2 PV
open EV (enc)
/-! ### the best of a list -/
theorem best1_spec {α : Type} [OV α] : ∀ (xs : List α) (x : α), best1 OV.lt x xs ∈ x :: xs ∧ ∀ y ∈ x :: xs, OV.lt y (best1 OV.lt x xs) = false
  | [], x => ⟨by simp [best1], fun y hy => by
    obtain rfl : y = x := by simpa using hy
    exact OV.irr _⟩
  | z :: xs, x => by
    have e : best1 OV.lt x (z :: xs) = best1 OV.lt (if OV.lt z x then z else x) xs := rfl
    rw [e]
    obtain ⟨h1, h2⟩ := best1_spec xs (if OV.lt z x then z else x)
    generalize hm : best1 OV.lt (if OV.lt z x then z else x) xs = m at h1 h2
    have h3 := h2 (if OV.lt z x then z else x) (by simp)
    constructor
    · rcases List.mem_cons.mp h1 with h | h
      · rw [h]; split <;> simp
      · simp [h]
    · intro y hy
      rcases List.mem_cons.mp hy with rfl | hy
      · by_cases c : OV.lt z y = true
        · rw [if_pos c] at h3
          cases q : OV.lt y m with
          | false => rfl
          | true => rw [OV.tr _ _ _ c q] at h3; cases h3
        · rw [if_neg c] at h3; exact h3
      · rcases List.mem_cons.mp hy with rfl | hy
        · by_cases c : OV.lt y x = true
          · rw [if_pos c] at h3; exact h3
          · rw [if_neg c] at h3
            have c : OV.lt y x = false := by simpa using c
            cases q : OV.lt y m with
            | false => rfl
            | true =>
              by_cases c2 : OV.lt x y = true
              · rw [OV.tr _ _ _ c2 q] at h3; cases h3
              · have := OV.tot _ _ c (by simpa using c2)
                subst this; rw [h3] at q; cases q
        · exact h2 y (by simp [hy])
theorem bestM_spec {α : Type} [OV α] : ∀ (xs : List α) (x : α), best1 (fun y a => OV.lt a y) x xs ∈ x :: xs ∧ ∀ y ∈ x :: xs, OV.lt (best1 (fun y a => OV.lt a y) x xs) y = false
  | [], x => ⟨by simp [best1], fun y hy => by
    obtain rfl : y = x := by simpa using hy
    exact OV.irr _⟩
  | z :: xs, x => by
    have e : best1 (fun y a => OV.lt a y) x (z :: xs) = best1 (fun y a => OV.lt a y) (if OV.lt x z then z else x) xs := rfl
    rw [e]
    obtain ⟨h1, h2⟩ := bestM_spec xs (if OV.lt x z then z else x)
    generalize hm : best1 (fun y a => OV.lt a y) (if OV.lt x z then z else x) xs = m at h1 h2
    have h3 := h2 (if OV.lt x z then z else x) (by simp)
    constructor
    · rcases List.mem_cons.mp h1 with h | h
      · rw [h]; split <;> simp
      · simp [h]
    · intro y hy
      rcases List.mem_cons.mp hy with rfl | hy
      · by_cases c : OV.lt y z = true
        · rw [if_pos c] at h3
          cases q : OV.lt m y with
          | false => rfl
          | true => rw [OV.tr _ _ _ q c] at h3; cases h3
        · rw [if_neg c] at h3; exact h3
      · rcases List.mem_cons.mp hy with rfl | hy
        · by_cases c : OV.lt x y = true
          · rw [if_pos c] at h3; exact h3
          · rw [if_neg c] at h3
            have c : OV.lt x y = false := by simpa using c
            cases q : OV.lt m y with
            | false => rfl
            | true =>
              by_cases c2 : OV.lt y x = true
              · rw [OV.tr _ _ _ q c2] at h3; cases h3
              · have := OV.tot _ _ c (by simpa using c2)
                subst this; rw [h3] at q; cases q
        · exact h2 y (by simp [hy])
/-- the least, the greatest of a list -/
def minL {α : Type} [OV α] : List α → Option α
  | [] => none
  | x :: xs => some (best1 OV.lt x xs)
def maxL {α : Type} [OV α] : List α → Option α
  | [] => none
  | x :: xs => some (best1 (fun y a => OV.lt a y) x xs)
theorem minL_none {α : Type} [OV α] {xs : List α} : minL xs = none ↔ xs = [] := by cases xs <;> simp [minL]
theorem maxL_none {α : Type} [OV α] {xs : List α} : maxL xs = none ↔ xs = [] := by cases xs <;> simp [maxL]
theorem minL_some {α : Type} [OV α] {xs : List α} {m : α} : minL xs = some m ↔ m ∈ xs ∧ ∀ y ∈ xs, OV.lt y m = false := by
  cases xs with
  | nil => simp [minL]
  | cons x xs =>
    obtain ⟨h1, h2⟩ := best1_spec xs x
    simp only [minL, Option.some.injEq]
    constructor
    · rintro rfl; exact ⟨h1, h2⟩
    · rintro ⟨h3, h4⟩
      exact OV.tot _ _ (h4 _ h1) (h2 _ h3)
theorem maxL_some {α : Type} [OV α] {xs : List α} {m : α} : maxL xs = some m ↔ m ∈ xs ∧ ∀ y ∈ xs, OV.lt m y = false := by
  cases xs with
  | nil => simp [maxL]
  | cons x xs =>
    obtain ⟨h1, h2⟩ := bestM_spec xs x
    simp only [maxL, Option.some.injEq]
    constructor
    · rintro rfl; exact ⟨h1, h2⟩
    · rintro ⟨h3, h4⟩
      exact OV.tot _ _ (h2 _ h3) (h4 _ h1)
theorem minL_congr {α : Type} [OV α] {xs ys : List α} (h : ∀ a, a ∈ xs ↔ a ∈ ys) : minL xs = minL ys := by
  cases e : minL xs with
  | none =>
    rw [minL_none] at e; subst e
    cases ys with
    | nil => rfl
    | cons y ys => have := (h y).mpr (by simp); cases this
  | some m =>
    rw [minL_some] at e
    exact (minL_some.mpr ⟨(h m).mp e.1, fun y hy => e.2 y ((h y).mpr hy)⟩).symm
theorem maxL_congr {α : Type} [OV α] {xs ys : List α} (h : ∀ a, a ∈ xs ↔ a ∈ ys) : maxL xs = maxL ys := by
  cases e : maxL xs with
  | none =>
    rw [maxL_none] at e; subst e
    cases ys with
    | nil => rfl
    | cons y ys => have := (h y).mpr (by simp); cases this
  | some m =>
    rw [maxL_some] at e
    exact (maxL_some.mpr ⟨(h m).mp e.1, fun y hy => e.2 y ((h y).mpr hy)⟩).symm
/-! ### tables filled from behind -/
section
variable {X : Type} (n : Nat) (base : X) (step : Nat → (Nat → X) → X)
def backF : Nat → Nat → X
  | 0, _ => base
  | f + 1, b => if n ≤ b then base else step b fun e => backF f e
def back (b : Nat) : X := backF n base step (n - b) b
theorem backF_more (loc : ∀ b g g', b < n → (∀ e, b < e → e ≤ n → g e = g' e) → step b g = step b g') : ∀ (f f' b : Nat), n - b ≤ f → n - b ≤ f' → backF n base step f b = backF n base step f' b
  | 0, 0, b, _, _ => rfl
  | 0, f' + 1, b, h, _ => by unfold backF; rw [if_pos (by omega)]
  | f + 1, 0, b, _, h => by unfold backF; rw [if_pos (by omega)]
  | f + 1, f' + 1, b, h, h' => by
    unfold backF
    by_cases c : n ≤ b
    · rw [if_pos c, if_pos c]
    · rw [if_neg c, if_neg c]
      exact loc b _ _ (by omega) fun e h1 h2 => backF_more loc f f' e (by omega) (by omega)
theorem back_top {b : Nat} (h : n ≤ b) : back n base step b = base := by
  unfold back; rw [show n - b = 0 by omega]; rfl
theorem back_step (loc : ∀ b g g', b < n → (∀ e, b < e → e ≤ n → g e = g' e) → step b g = step b g') {b : Nat} (h : b < n) : back n base step b = step b (back n base step) := by
  have : back n base step b = backF n base step (n - b - 1 + 1) b := by unfold back; congr 1; omega
  rw [this]
  unfold backF
  rw [if_neg (by omega)]
  exact loc b _ _ h fun e h1 h2 => backF_more n base step loc _ _ e (by omega) (by omega)
end
/-! ### settings -/
section
variable (ws : List Int) (w : Int)
def fit (b e : Nat) : Bool := decide (0 ≤ room ws w b e)
def nds (b : Nat) : List Nat := List.range' (b + 1) (ws.length - b)
theorem mem_nds {b e : Nat} : e ∈ nds ws b ↔ b < e ∧ (b < ws.length → e ≤ ws.length) ∧ e < b + 1 + (ws.length - b) := by
  unfold nds; rw [List.mem_range'_1]; omega
def sStep (b : Nat) (g : Nat → List (List Nat)) : List (List Nat) := ((nds ws b).filter (fit ws w b)).flatMap fun e => (g e).map (b :: ·)
def S (b : Nat) : List (List Nat) := back ws.length [[]] (sStep ws w) b
theorem sStep_loc : ∀ b g g', b < ws.length → (∀ e, b < e → e ≤ ws.length → g e = g' e) → sStep ws w b g = sStep ws w b g' := fun b g g' hb h => by
  unfold sStep
  rw [List.flatMap_def, List.flatMap_def]
  congr 1
  apply List.map_congr_left
  intro e he
  have := (mem_nds ws).mp (List.mem_filter.mp he).1
  rw [h e this.1 (this.2.1 hb)]
theorem S_top : S ws w ws.length = [[]] := back_top _ _ _ (Nat.le_refl _)
theorem S_step {b : Nat} (h : b < ws.length) : S ws w b = ((nds ws b).filter (fit ws w b)).flatMap fun e => (S ws w e).map (b :: ·) := back_step _ _ _ (sStep_loc ws w) h
theorem mem_S {b : Nat} (h : b < ws.length) {r : List Nat} : r ∈ S ws w b ↔ ∃ e s, b < e ∧ e ≤ ws.length ∧ fit ws w b e = true ∧ s ∈ S ws w e ∧ r = b :: s := by
  rw [S_step ws w h, List.mem_flatMap]
  constructor
  · rintro ⟨e, he, hr⟩
    obtain ⟨s, hs, rfl⟩ := List.mem_map.mp hr
    obtain ⟨h1, h2⟩ := List.mem_filter.mp he
    have := (mem_nds ws).mp h1
    exact ⟨e, s, this.1, this.2.1 h, h2, hs, rfl⟩
  · rintro ⟨e, s, h1, h2, h3, h4, rfl⟩
    exact ⟨e, List.mem_filter.mpr ⟨(mem_nds ws).mpr ⟨h1, fun _ => h2, by omega⟩, h3⟩, List.mem_map.mpr ⟨s, h4, rfl⟩⟩
/-- downward over the places -/
theorem down {P : Nat → Prop} (h0 : P ws.length) (hs : ∀ b, b < ws.length → (∀ e, b < e → e ≤ ws.length → P e) → P b) : ∀ b, b ≤ ws.length → P b := by
  have : ∀ k b, b ≤ ws.length → ws.length - b ≤ k → P b := fun k => by
    induction k with
    | zero =>
      intro b hb hk
      have : b = ws.length := by omega
      rw [this]; exact h0
    | succ k ih =>
      intro b hb hk
      by_cases c : b = ws.length
      · rw [c]; exact h0
      · exact hs b (by omega) fun e h1 h2 => ih e h2 (by omega)
  exact fun b hb => this _ b hb (Nat.le_refl _)
theorem S_head : ∀ b, b ≤ ws.length → ∀ r ∈ S ws w b, (b = ws.length ∧ r = []) ∨ (b < ws.length ∧ ∃ s, r = b :: s) := fun b hb r hr => by
  by_cases c : b = ws.length
  · subst c; rw [S_top] at hr; exact .inl ⟨rfl, by simpa using hr⟩
  · obtain ⟨e, s, _, _, _, _, rfl⟩ := (mem_S ws w (by omega)).mp hr
    exact .inr ⟨by omega, s, rfl⟩
/-- what the lines of a setting sum to -/
def rsum (c : Nat → Nat → Int) : List Nat → Int
  | [] => 0
  | b :: r => c b (r.headD ws.length) + rsum c r
theorem S_headD {b : Nat} (hb : b ≤ ws.length) {r : List Nat} (hr : r ∈ S ws w b) : r.headD ws.length = b := by
  rcases S_head ws w b hb r hr with ⟨h1, rfl⟩ | ⟨h1, s, rfl⟩
  · exact h1.symm
  · rfl
theorem rsum_cons {c : Nat → Nat → Int} {b e : Nat} (he : e ≤ ws.length) {s : List Nat} (hs : s ∈ S ws w e) : rsum ws c (b :: s) = c b e + rsum ws c s := by
  rw [rsum, S_headD ws w he hs]
/-! the count -/
def cnt (b : Nat) : Int := back ws.length 1 (fun b g => (((nds ws b).filter (fit ws w b)).map g).sum) b
theorem cnt_loc : ∀ (b : Nat) (g g' : Nat → Int), b < ws.length → (∀ e, b < e → e ≤ ws.length → g e = g' e) → (((nds ws b).filter (fit ws w b)).map g).sum = (((nds ws b).filter (fit ws w b)).map g').sum := fun b g g' hb h => by
  congr 1
  apply List.map_congr_left
  intro e he
  have := (mem_nds ws).mp (List.mem_filter.mp he).1
  exact h e this.1 (this.2.1 hb)
theorem cnt_top : cnt ws w ws.length = 1 := back_top _ _ _ (Nat.le_refl _)
theorem cnt_step {b : Nat} (h : b < ws.length) : cnt ws w b = (((nds ws b).filter (fit ws w b)).map (cnt ws w)).sum := back_step _ _ _ (cnt_loc ws w) h
theorem cnt_S : ∀ b, b ≤ ws.length → cnt ws w b = (S ws w b).length := down ws (by rw [cnt_top, S_top]; rfl) fun b hb ih => by
  rw [cnt_step ws w hb, S_step ws w hb, List.length_flatMap]
  have : ∀ l : List Nat, (∀ e ∈ l, cnt ws w e = (S ws w e).length) → (l.map (cnt ws w)).sum = ((l.map fun e => ((S ws w e).map (b :: ·)).length).sum : Nat) := fun l => by
    induction l with
    | nil => intro _; rfl
    | cons e l ih =>
      intro h
      rw [List.map_cons, List.map_cons, List.sum_cons, List.sum_cons, ih fun x hx => h x (by simp [hx]), h e (by simp)]
      simp
  exact this _ fun e he => by
    have := (mem_nds ws).mp (List.mem_filter.mp he).1
    exact ih e this.1 (this.2.1 hb)
/-! the most full lines -/
def isF (b e : Nat) : Int := if room ws w b e = 0 then 1 else 0
def flStep (b : Nat) (g : Nat → Option Int) : Option Int := maxL (((nds ws b).filter fun e => fit ws w b e && (g e).isSome).map fun e => (g e).getD 0 + isF ws w b e)
def fl (b : Nat) : Option Int := back ws.length (some 0) (flStep ws w) b
theorem step_congr {β γ : Type} {b : Nat} (hb : b < ws.length) {g g' : Nat → Option β} (h : ∀ e, b < e → e ≤ ws.length → g e = g' e) (f : Option β → Nat → γ) :
    (((nds ws b).filter fun e => fit ws w b e && (g e).isSome).map fun e => f (g e) e) = (((nds ws b).filter fun e => fit ws w b e && (g' e).isSome).map fun e => f (g' e) e) := by
  have h' : ∀ e ∈ nds ws b, g e = g' e := fun e he => by
    have := (mem_nds ws).mp he
    exact h e this.1 (this.2.1 hb)
  rw [List.filter_congr (q := fun e => fit ws w b e && (g' e).isSome) fun e he => by rw [h' e he]]
  apply List.map_congr_left
  intro e he
  rw [h' e (List.mem_filter.mp he).1]
theorem fl_loc : ∀ (b : Nat) (g g' : Nat → Option Int), b < ws.length → (∀ e, b < e → e ≤ ws.length → g e = g' e) → flStep ws w b g = flStep ws w b g' := fun b g g' hb h => by
  unfold flStep
  rw [step_congr ws w hb h fun x e => x.getD 0 + isF ws w b e]
theorem fl_top : fl ws w ws.length = some 0 := back_top _ _ _ (Nat.le_refl _)
theorem fl_step {b : Nat} (h : b < ws.length) : fl ws w b = flStep ws w b (fl ws w) := back_step _ _ _ (fl_loc ws w) h
theorem fl_S : ∀ b, b ≤ ws.length → fl ws w b = maxL ((S ws w b).map (rsum ws (isF ws w))) := down ws (by rw [fl_top, S_top]; rfl) fun b hb ih => by
  rw [fl_step ws w hb]
  unfold flStep
  cases e1 : maxL ((S ws w b).map (rsum ws (isF ws w))) with
  | none =>
    rw [maxL_none, List.map_eq_nil_iff] at e1
    rw [maxL_none, List.map_eq_nil_iff, List.filter_eq_nil_iff]
    intro e he hc
    have he' := (mem_nds ws).mp he
    rw [Bool.and_eq_true] at hc
    rw [ih e he'.1 (he'.2.1 hb)] at hc
    cases q : S ws w e with
    | nil => rw [q] at hc; simp [maxL] at hc
    | cons s _ =>
      have : b :: s ∈ S ws w b := (mem_S ws w hb).mpr ⟨e, s, he'.1, he'.2.1 hb, hc.1, by rw [q]; simp, rfl⟩
      rw [e1] at this; cases this
  | some m =>
    obtain ⟨h1, h2⟩ := maxL_some.mp e1
    obtain ⟨r, hr, hm⟩ := List.mem_map.mp h1
    obtain ⟨e, s, be, en, hf, hs, rfl⟩ := (mem_S ws w hb).mp hr
    have key : ∀ e', b < e' → e' ≤ ws.length → fit ws w b e' = true → ∀ v, fl ws w e' = some v → v + isF ws w b e' ≤ m := fun e' q1 q2 q3 v q4 => by
      rw [ih e' q1 q2] at q4
      obtain ⟨s', hs', hv⟩ := List.mem_map.mp (maxL_some.mp q4).1
      have := h2 (rsum ws (isF ws w) (b :: s')) (List.mem_map.mpr ⟨_, (mem_S ws w hb).mpr ⟨e', s', q1, q2, q3, hs', rfl⟩, rfl⟩)
      rw [rsum_cons ws w q2 hs'] at this
      have this : ¬ (m < _) := of_decide_eq_false this
      omega
    rw [maxL_some]
    constructor
    · refine List.mem_map.mpr ⟨e, List.mem_filter.mpr ⟨(mem_nds ws).mpr ⟨be, fun _ => en, by omega⟩, ?_⟩, ?_⟩
      · rw [hf, ih e be en]
        cases q : S ws w e with
        | nil => rw [q] at hs; cases hs
        | cons _ _ => simp [maxL]
      · cases q : fl ws w e with
        | none =>
          rw [ih e be en, maxL_none, List.map_eq_nil_iff] at q
          rw [q] at hs; cases hs
        | some v =>
          have k1 := key e be en hf v q
          rw [ih e be en] at q
          have k2 := (maxL_some.mp q).2 (rsum ws (isF ws w) s) (List.mem_map.mpr ⟨s, hs, rfl⟩)
          have k2 : ¬ (v < _) := of_decide_eq_false k2
          rw [rsum_cons ws w en hs] at hm
          show v + _ = m
          omega
    · intro y hy
      obtain ⟨e', he', rfl⟩ := List.mem_map.mp hy
      obtain ⟨q1, q2⟩ := List.mem_filter.mp he'
      have q1 := (mem_nds ws).mp q1
      rw [Bool.and_eq_true] at q2
      cases q : fl ws w e' with
      | none => rw [q] at q2; simp at q2
      | some v =>
        have := key e' q1.1 (q1.2.1 hb) q2.1 v q
        show decide (m < v + isF ws w b e') = false
        exact decide_eq_false (by omega)
/-! the least price -/
def lsStep (b : Nat) (g : Nat → Option (Int × List Nat)) : Option (Int × List Nat) := minL (((nds ws b).filter fun e => fit ws w b e && (g e).isSome).map fun e => (lp ws w b e + ((g e).getD (0, [])).1, b :: ((g e).getD (0, [])).2))
def ls (b : Nat) : Option (Int × List Nat) := back ws.length (some (0, [])) (lsStep ws w) b
theorem ls_loc : ∀ (b : Nat) (g g' : Nat → Option (Int × List Nat)), b < ws.length → (∀ e, b < e → e ≤ ws.length → g e = g' e) → lsStep ws w b g = lsStep ws w b g' := fun b g g' hb h => by
  unfold lsStep
  rw [step_congr ws w hb h fun x e => (lp ws w b e + (x.getD (0, [])).1, b :: (x.getD (0, [])).2)]
theorem ls_top : ls ws w ws.length = some (0, []) := back_top _ _ _ (Nat.le_refl _)
theorem ls_step {b : Nat} (h : b < ws.length) : ls ws w b = lsStep ws w b (ls ws w) := back_step _ _ _ (ls_loc ws w) h
theorem lt_shift (k : Int) (b : Nat) (p q : Int × List Nat) : OV.lt ((k + p.1, b :: p.2) : Int × List Nat) (k + q.1, b :: q.2) = OV.lt p q := by
  show (if k + p.1 = k + q.1 then lexLt' OV.lt (b :: p.2) (b :: q.2) else decide (k + p.1 < k + q.1)) = if p.1 = q.1 then lexLt' OV.lt p.2 q.2 else decide (p.1 < q.1)
  by_cases c : p.1 = q.1
  · rw [if_pos (by omega), if_pos c]; simp [lexLt']
  · rw [if_neg (by omega), if_neg c]
    by_cases c2 : p.1 < q.1
    · rw [decide_eq_true c2, decide_eq_true (by omega)]
    · rw [decide_eq_false c2, decide_eq_false (by omega)]
theorem ls_S : ∀ b, b ≤ ws.length → ls ws w b = minL ((S ws w b).map fun r => (rsum ws (lp ws w) r, r)) := down ws (by rw [ls_top, S_top]; rfl) fun b hb ih => by
  rw [ls_step ws w hb]
  unfold lsStep
  cases e1 : minL ((S ws w b).map fun r => (rsum ws (lp ws w) r, r)) with
  | none =>
    rw [minL_none, List.map_eq_nil_iff] at e1
    rw [minL_none, List.map_eq_nil_iff, List.filter_eq_nil_iff]
    intro e he hc
    have he' := (mem_nds ws).mp he
    rw [Bool.and_eq_true] at hc
    rw [ih e he'.1 (he'.2.1 hb)] at hc
    cases q : S ws w e with
    | nil => rw [q] at hc; simp [minL] at hc
    | cons s _ =>
      have : b :: s ∈ S ws w b := (mem_S ws w hb).mpr ⟨e, s, he'.1, he'.2.1 hb, hc.1, by rw [q]; simp, rfl⟩
      rw [e1] at this; cases this
  | some m =>
    obtain ⟨h1, h2⟩ := minL_some.mp e1
    obtain ⟨r, hr, hm⟩ := List.mem_map.mp h1
    obtain ⟨e, s, be, en, hf, hs, rfl⟩ := (mem_S ws w hb).mp hr
    have key : ∀ e', b < e' → e' ≤ ws.length → fit ws w b e' = true → ∀ v, ls ws w e' = some v → OV.lt ((lp ws w b e' + v.1, b :: v.2) : Int × List Nat) m = false := fun e' q1 q2 q3 v q4 => by
      rw [ih e' q1 q2] at q4
      obtain ⟨s', hs', hv⟩ := List.mem_map.mp (minL_some.mp q4).1
      have := h2 (rsum ws (lp ws w) (b :: s'), b :: s') (List.mem_map.mpr ⟨_, (mem_S ws w hb).mpr ⟨e', s', q1, q2, q3, hs', rfl⟩, rfl⟩)
      rw [rsum_cons ws w q2 hs'] at this
      rw [← hv]; exact this
    rw [minL_some]
    constructor
    · cases q : ls ws w e with
      | none =>
        rw [ih e be en, minL_none, List.map_eq_nil_iff] at q
        rw [q] at hs; cases hs
      | some v =>
        refine List.mem_map.mpr ⟨e, List.mem_filter.mpr ⟨(mem_nds ws).mpr ⟨be, fun _ => en, by omega⟩, by rw [hf, q]; rfl⟩, ?_⟩
        rw [q]
        have k1 := key e be en hf v q
        rw [ih e be en] at q
        have k2 := (minL_some.mp q).2 (rsum ws (lp ws w) s, s) (List.mem_map.mpr ⟨s, hs, rfl⟩)
        rw [← lt_shift (lp ws w b e) b] at k2
        rw [rsum_cons ws w en hs] at hm
        rw [← hm] at k1 ⊢
        exact OV.tot _ _ k1 k2
    · intro y hy
      obtain ⟨e', he', rfl⟩ := List.mem_map.mp hy
      obtain ⟨q1, q2⟩ := List.mem_filter.mp he'
      have q1 := (mem_nds ws).mp q1
      rw [Bool.and_eq_true] at q2
      cases q : ls ws w e' with
      | none => rw [q] at q2; simp at q2
      | some v => exact key e' q1.1 (q1.2.1 hb) q2.1 v q
end
end Lf

namespace Lf
open PySem PySem.Spec PyProof.Rows L2 PV
open EV (enc)
@[simp] theorem oRange_ii (i j : Int) : oRange [.int i, .int j] = .ok (.rng i j, false) := rfl
theorem seqV_rng (k n : Nat) (h : k ≤ 10000000) (h2 : n ≤ 10000000) : seqV (.rng ((k : Int) + 1) ((n : Int) + 1)) = some ((List.range' (k + 1) (n - k)).map enc) := by
  have e1 := rg_nat (n := k + 1) (by omega)
  have e2 := rg_nat (n := n + 1) (by omega)
  show (if rgOk _ && rgOk _ then _ else _) = _
  rw [show ((k : Int) + 1) = ((k + 1 : Nat) : Int) by omega, show ((n : Int) + 1) = ((n + 1 : Nat) : Int) by omega, e1, e2]
  simp only [Bool.and_self, if_true]
  rw [upto_nat]
  congr 4
  omega
theorem rng_up (k n : Nat) (h : k ≤ 10000000) (h2 : n ≤ 10000000) : rangeV [.int ((k : Int) + 1), .int ((n : Int) + 1)] = some ((List.range' (k + 1) (n - k)).map enc) := seqV_rng k n h h2
theorem rng_nds {ws : List Int} (h : Wd ws) {k : Nat} (hk : k ≤ ws.length) : rangeV [.int ((k : Int) + 1), .int ((ws.length : Int) + 1)] = some ((nds ws k).map enc) := rng_up k ws.length (by have := h.few; omega) (by have := h.few; omega)
theorem len_small {ws : List Int} (h : Wd ws) : ws.length ≤ 10000000 := by have := h.few; omega
theorem setting_count_ok {ws : List Int} (h : Wd ws) {w : Int} (h1 : 1 ≤ w) (h2 : w ≤ 30) : F_setting_count [.tup (ws.map enc), .int w] = .ok (.int (cnt ws w 0), false) := by
  have hf := h.few
  have hm := oMul_l1 (.int 0) ws.length h.line
  have hr := range_3 ws.length (by omega)
  have hT := tab_top (fun b => Val.int (cnt ws w b)) (.int 0) ws.length
  simp only [cnt_top] at hT
  have hadd : oAdd (.lst (List.replicate ws.length (.int 0))) (.lst [.int 1]) = .ok (.lst (tab (fun b => Val.int (cnt ws w b)) (.int 0) ws.length ws.length), true) := by
    rw [oAdd_ll _ _ (by simp; have := h.line; rw [show sizeLine = 16777216 from rfl]; omega), hT]
  simp [F_setting_count, runF, d_setting_count, check_page_ok h h1 h2, hm, hadd, hr]
  have key := for_tab (g := gN 3) (b := (sSeq (sOwn (dCB oRange [(dBin oAdd (dVar 3) (dC (.int 1))), (dBin oAdd (dCBS oLen 0) (dC (.int 1)))]) 4)
    (sSet 2 (dVar 3) (dCB (on1 oSum) [(dLc [5] (iVal (dVar 4)) (gN 5) (dTB (dBin oGe (dCB F_room_of [(dVar 0), (dVar 1), (dVar 3), (dVar 5)]) (dC (.int 0)))) (dIxS 2 (dVar 5)))]))))
    (fun (found : List Val) (tl : PV.Slot × PV.Slot) => [.frz (.tup (ws.map enc)), .frz (.int w), .own (.lst found), tl.1, tl.2, .emp]) (fun b => Val.int (cnt ws w b)) (.int 0) ws.length ?_ (.emp, .emp)
  · obtain ⟨tl, hk⟩ := key
    simp only at hk
    rw [hk]
    simp
    rw [oIx_l _ _ (show atI ((List.range (ws.length + 1)).map fun b => Val.int (cnt ws w b)) 0 = some (.int (cnt ws w 0)) from by
      have := atI_nat' (xs := (List.range (ws.length + 1)).map fun b => Val.int (cnt ws w b)) (i := 0) (by simp)
      simpa using this)]
    simp
  · rintro k hk ⟨t1, t2⟩
    have hl := lc_filter (own := [5]) (it := iVal (dVar 4)) (g := gN 5) (t := (dTB (dBin oGe (dCB F_room_of [(dVar 0), (dVar 1), (dVar 3), (dVar 5)]) (dC (.int 0))))) (elt := dIxS 2 (dVar 5))
      (env := [.frz (.tup (ws.map enc)), .frz (.int w), .own (.lst (tab (fun b => Val.int (cnt ws w b)) (.int 0) ws.length (k + 1))), .frz (.int k), .frz (.rng ((k : Int) + 1) ((ws.length : Int) + 1)), .emp])
      (env1 := [.frz (.tup (ws.map enc)), .frz (.int w), .own (.lst (tab (fun b => Val.int (cnt ws w b)) (.int 0) ws.length (k + 1))), .frz (.int k), .frz (.rng ((k : Int) + 1) ((ws.length : Int) + 1)), .emp])
      (nds ws k) enc (fun e => .int (cnt ws w e)) (fit ws w k) (by simp [seqV_rng k ws.length (by omega) (by omega), nds]) (by simp) (by unfold nds; rw [List.length_range', show sizeLine = 16777216 from rfl]; omega) (fun e he => ?_) (by simp)
    · simp [hl]
      rw [show (List.map (cnt ws w) ((nds ws k).filter (fit ws w k))).sum = cnt ws w k from (cnt_step ws w hk).symm]
      rw [setV_l _ _ _ (by rw [tab_len]; omega)]
      simp
      exact tab_set (fun b => Val.int (cnt ws w b)) (.int 0) ws.length k hk
    · have he' := (mem_nds ws).mp he
      have hix := oIx_l _ _ (tab_at (fun b => Val.int (cnt ws w b)) (.int 0) ws.length (k + 1) e (by omega) (he'.2.1 hk))
      simp [room_of_ok, fit]
      by_cases c : 0 ≤ room ws w k e
      · simp [c, hix]
      · simp [c]
theorem T0 (T : Nat → Val) (n : Nat) : atI ((List.range (n + 1)).map T) 0 = some (T 0) := by
  have := atI_nat' (xs := (List.range (n + 1)).map T) (i := 0) (by simp)
  simpa using this
theorem max_map {α : Type} [OV α] (xs : List α) (h : EV.dep α ≤ 60) (m : α) (e : maxL xs = some m) : oBest maxV (.lst (xs.map enc)) = .ok (enc m, false) := by
  cases xs with
  | nil => cases e
  | cons x xs =>
    rw [oMax_l _ _ h]
    have e := Option.some.inj e
    rw [← e]
theorem min_map {α : Type} [OV α] (xs : List α) (h : EV.dep α ≤ 60) (m : α) (e : minL xs = some m) : oBest minV (.lst (xs.map enc)) = .ok (enc m, false) := by
  cases xs with
  | nil => cases e
  | cons x xs =>
    rw [oMin_l _ _ h]
    have e := Option.some.inj e
    rw [← e]
theorem max_mapT {α : Type} [OV α] (xs : List α) (h : EV.dep α ≤ 60) (m : α) (e : maxL xs = some m) : oBest maxV (.tup (xs.map enc)) = .ok (enc m, false) := by
  cases xs with
  | nil => cases e
  | cons x xs =>
    rw [oMax_t _ _ h]
    have e := Option.some.inj e
    rw [← e]
theorem full_lines_ok {ws : List Int} (h : Wd ws) {w : Int} (h1 : 1 ≤ w) (h2 : w ≤ 30) : F_full_lines [.tup (ws.map enc), .int w] = .ok (enc (fl ws w 0), false) := by
  have hf := h.few
  have hm := oMul_l1 .non ws.length h.line
  have hr := range_3 ws.length (by omega)
  have hT := tab_top (fun b => (enc (fl ws w b) : Val)) .non ws.length
  simp only [fl_top] at hT
  have hadd : oAdd (.lst (List.replicate ws.length .non)) (.lst [.int 0]) = .ok (.lst (tab (fun b => enc (fl ws w b)) .non ws.length ws.length), true) := by
    rw [oAdd_ll _ _ (by simp; have := h.line; rw [show sizeLine = 16777216 from rfl]; omega), hT]; rfl
  simp [F_full_lines, runF, d_full_lines, check_page_ok h h1 h2, hm, hadd, hr]
  have key := for_tab (g := gN 3) (b := (sSeq (sOwn (dLst []) 4)
    (sSeq (sFor (iRng [(dBin oAdd (dVar 3) (dC (.int 1))), (dBin oAdd (dCBS oLen 0) (dC (.int 1)))]) (gN 5) (sSeq (sOwn (dCB F_room_of [(dVar 0), (dVar 1), (dVar 3), (dVar 5)]) 6)
    (sIf (dAndT (dTB (dBin oGe (dVar 6) (dC (.int 0)))) (dTB (dBin oIsNot (dIxS 2 (dVar 5)) (dC .non)))) (sExpr (dApp 4 (dBin oAdd (dIxS 2 (dVar 5)) (dCB (on1 oInt) [(dBin oEq (dVar 6) (dC (.int 0)))])))) sNil)))
    (sSet 2 (dVar 3) (dIf (dTB (dBin oGt (dCBS oLen 4) (dC (.int 0)))) (dCBS (oBest maxV) 4) (dC .non))))))
    (fun (found : List Val) (tl : PV.Slot × PV.Slot × PV.Slot × PV.Slot) => [.frz (.tup (ws.map enc)), .frz (.int w), .own (.lst found), tl.1, tl.2.1, tl.2.2.1, tl.2.2.2]) (fun b => enc (fl ws w b)) .non ws.length ?_ (.emp, .emp, .emp, .emp)
  · obtain ⟨tl, hk⟩ := key
    simp only at hk
    rw [hk]
    simp
    rw [oIx_l _ _ (T0 (fun b => enc (fl ws w b)) ws.length)]
    simp
  · rintro k hk ⟨t1, t2, t3, t4⟩
    simp [rng_nds h (Nat.le_of_lt hk)]
    have inner := for_app (g := gN 5) (b := (sSeq (sOwn (dCB F_room_of [(dVar 0), (dVar 1), (dVar 3), (dVar 5)]) 6)
    (sIf (dAndT (dTB (dBin oGe (dVar 6) (dC (.int 0)))) (dTB (dBin oIsNot (dIxS 2 (dVar 5)) (dC .non)))) (sExpr (dApp 4 (dBin oAdd (dIxS 2 (dVar 5)) (dCB (on1 oInt) [(dBin oEq (dVar 6) (dC (.int 0)))])))) sNil)))
      (fun (acc : List Val) (tl : PV.Slot × PV.Slot) => [.frz (.tup (ws.map enc)), .frz (.int w), .own (.lst (tab (fun b => enc (fl ws w b)) .non ws.length (k + 1))), .frz (.int k), .own (.lst acc), tl.1, tl.2])
      enc (fun e => fit ws w k e && (fl ws w e).isSome) (fun e => .int ((fl ws w e).getD 0 + isF ws w k e)) (nds ws k) ?_ [] (t3, t4) (by unfold nds; rw [List.length_range', show sizeLine = 16777216 from rfl]; simp; omega)
    · obtain ⟨tl, hi⟩ := inner
      have hmap : ((nds ws k).filter fun e => fit ws w k e && (fl ws w e).isSome).map (fun e => Val.int ((fl ws w e).getD 0 + isF ws w k e)) = (((nds ws k).filter fun e => fit ws w k e && (fl ws w e).isSome).map fun e => (fl ws w e).getD 0 + isF ws w k e).map enc := by
        rw [List.map_map]; rfl
      have hst := fl_step ws w hk
      unfold flStep at hst
      rw [List.nil_append, hmap] at hi
      generalize (((nds ws k).filter fun e => fit ws w k e && (fl ws w e).isSome).map fun e => (fl ws w e).getD 0 + isF ws w k e) = xs at hi hst
      simp only at hi
      rw [hi]
      have fin : ∀ v, v = enc (fl ws w k) → setV (.lst (tab (fun b => enc (fl ws w b)) .non ws.length (k + 1))) (.int k) v = some (.lst (tab (fun b => enc (fl ws w b)) .non ws.length k)) := fun v e => by
        rw [setV_l _ _ _ (by rw [tab_len]; omega), e, tab_set (fun b => enc (fl ws w b)) .non ws.length k hk]
      cases q : fl ws w k with
      | none =>
        rw [q] at hst
        have := maxL_none.mp hst.symm
        subst this
        simp [fin .non (by rw [q]; rfl)]
      | some m =>
        rw [q] at hst
        have hb := max_map _ (by decide) m hst.symm
        have hne : xs ≠ [] := fun z => by rw [z] at hst; cases hst
        have hpos := List.length_pos_iff.mpr hne
        have hpos' : (0 : Int) < (xs.length : Int) := by omega
        simp at hb
        simp [hpos, hpos', hb, fin (.int m) (by rw [q]; rfl)]
    · rintro e he acc ⟨u1, u2⟩ hl
      have he' := (mem_nds ws).mp he
      have hix := oIx_l _ _ (tab_at (fun b => enc (fl ws w b)) .non ws.length (k + 1) e (by omega) (he'.2.1 hk))
      simp [room_of_ok, fit, isF]
      by_cases c : 0 ≤ room ws w k e
      · cases q : fl ws w e with
        | none => simp [c, hix, q]
        | some m =>
          simp [c, hix, q, hl]
          by_cases c2 : room ws w k e = 0 <;> simp [c2, b2]
      · simp [c]
theorem enc_prod2 {α β : Type} [EV α] [EV β] (a : α) (b : β) : (enc (a, b) : Val) = .tup [enc a, enc b] := rfl
theorem S_len {ws : List Int} (w : Int) : ∀ b, b ≤ ws.length → ∀ r ∈ S ws w b, r.length ≤ ws.length - b := down ws (fun r hr => by rw [S_top] at hr; simp at hr; subst hr; simp) fun b hb ih r hr => by
  obtain ⟨e, s, h1, h2, _, h4, rfl⟩ := (mem_S ws w hb).mp hr
  have := ih e h1 h2 s h4
  rw [List.length_cons]; omega
theorem least_settings_ok {ws : List Int} (h : Wd ws) {w : Int} (h1 : 1 ≤ w) (h2 : w ≤ 30) : F_least_settings [.tup (ws.map enc), .int w] = .ok (.lst ((List.range (ws.length + 1)).map fun b => enc (ls ws w b)), false) := by
  have hf := h.few
  have hm := oMul_l1 .non ws.length h.line
  have hr := range_3 ws.length (by omega)
  have hT := tab_top (fun b => (enc (ls ws w b) : Val)) .non ws.length
  simp only [ls_top] at hT
  have hadd : oAdd (.lst (List.replicate ws.length .non)) (.lst [.tup [.int 0, .tup []]]) = .ok (.lst (tab (fun b => enc (ls ws w b)) .non ws.length ws.length), true) := by
    rw [oAdd_ll _ _ (by simp; have := h.line; rw [show sizeLine = 16777216 from rfl]; omega), hT]; rfl
  simp [F_least_settings, runF, d_least_settings, hm, hadd, hr]
  have key := for_tab (g := gN 3) (b := (sSeq (sOwn (dLst []) 4)
    (sSeq (sFor (iRng [(dBin oAdd (dVar 3) (dC (.int 1))), (dBin oAdd (dCBS oLen 0) (dC (.int 1)))]) (gN 5) (sIf (dAndT (dTB (dBin oGe (dCB F_room_of [(dVar 0), (dVar 1), (dVar 3), (dVar 5)]) (dC (.int 0)))) (dTB (dBin oIsNot (dIxS 2 (dVar 5)) (dC .non)))) (sSeq (sAsg (dIxS 2 (dVar 5)) (gT 2 (gsCons (gN 6) (gsCons (gN 7) gsNil))))
    (sExpr (dApp 4 (dTup [(dBin oAdd (dCB F_line_price [(dVar 0), (dVar 1), (dVar 3), (dVar 5)]) (dVar 6)), (dBin oAdd (dTup [(dVar 3)]) (dVar 7))])))) sNil))
    (sSet 2 (dVar 3) (dIf (dTB (dBin oGt (dCBS oLen 4) (dC (.int 0)))) (dCBS (oBest minV) 4) (dC .non))))))
    (fun (found : List Val) (tl : PV.Slot × PV.Slot × PV.Slot × PV.Slot × PV.Slot) => [.frz (.tup (ws.map enc)), .frz (.int w), .own (.lst found), tl.1, tl.2.1, tl.2.2.1, tl.2.2.2.1, tl.2.2.2.2]) (fun b => enc (ls ws w b)) .non ws.length ?_ (.emp, .emp, .emp, .emp, .emp)
  · obtain ⟨tl, hk⟩ := key
    simp only at hk
    rw [hk]
    simp
  · rintro k hk ⟨t1, t2, t3, t4, t5⟩
    simp [rng_nds h (Nat.le_of_lt hk)]
    have inner := for_app (g := gN 5) (b := (sIf (dAndT (dTB (dBin oGe (dCB F_room_of [(dVar 0), (dVar 1), (dVar 3), (dVar 5)]) (dC (.int 0)))) (dTB (dBin oIsNot (dIxS 2 (dVar 5)) (dC .non)))) (sSeq (sAsg (dIxS 2 (dVar 5)) (gT 2 (gsCons (gN 6) (gsCons (gN 7) gsNil))))
    (sExpr (dApp 4 (dTup [(dBin oAdd (dCB F_line_price [(dVar 0), (dVar 1), (dVar 3), (dVar 5)]) (dVar 6)), (dBin oAdd (dTup [(dVar 3)]) (dVar 7))])))) sNil))
      (fun (acc : List Val) (tl : PV.Slot × PV.Slot × PV.Slot) => [.frz (.tup (ws.map enc)), .frz (.int w), .own (.lst (tab (fun b => enc (ls ws w b)) .non ws.length (k + 1))), .frz (.int k), .own (.lst acc), tl.1, tl.2.1, tl.2.2])
      enc (fun e => fit ws w k e && (ls ws w e).isSome) (fun e => enc (lp ws w k e + ((ls ws w e).getD (0, [])).1, k :: ((ls ws w e).getD (0, [])).2)) (nds ws k) ?_ [] (t3, t4, t5) (by unfold nds; rw [List.length_range', show sizeLine = 16777216 from rfl]; simp; omega)
    · obtain ⟨tl, hi⟩ := inner
      have hmap : ((nds ws k).filter fun e => fit ws w k e && (ls ws w e).isSome).map (fun e => (enc (lp ws w k e + ((ls ws w e).getD (0, [])).1, k :: ((ls ws w e).getD (0, [])).2) : Val)) = (((nds ws k).filter fun e => fit ws w k e && (ls ws w e).isSome).map fun e => (lp ws w k e + ((ls ws w e).getD (0, [])).1, k :: ((ls ws w e).getD (0, [])).2)).map enc := by
        rw [List.map_map]; rfl
      have hst := ls_step ws w hk
      unfold lsStep at hst
      rw [List.nil_append, hmap] at hi
      generalize (((nds ws k).filter fun e => fit ws w k e && (ls ws w e).isSome).map fun e => (lp ws w k e + ((ls ws w e).getD (0, [])).1, k :: ((ls ws w e).getD (0, [])).2)) = xs at hi hst
      simp only at hi
      rw [hi]
      have fin : ∀ v, v = enc (ls ws w k) → setV (.lst (tab (fun b => enc (ls ws w b)) .non ws.length (k + 1))) (.int k) v = some (.lst (tab (fun b => enc (ls ws w b)) .non ws.length k)) := fun v e => by
        rw [setV_l _ _ _ (by rw [tab_len]; omega), e, tab_set (fun b => enc (ls ws w b)) .non ws.length k hk]
      cases q : ls ws w k with
      | none =>
        rw [q] at hst
        have := minL_none.mp hst.symm
        subst this
        simp [fin .non (by rw [q]; rfl)]
      | some m =>
        rw [q] at hst
        have hb := min_map _ (by decide) m hst.symm
        have hne : xs ≠ [] := fun z => by rw [z] at hst; cases hst
        have hpos := List.length_pos_iff.mpr hne
        have hfin := fin (enc m) (by rw [q]; rfl)
        simp [hpos, hb, -enc_pair, hfin]
    · rintro e he acc ⟨u1, u2, u3⟩ hl
      have he' := (mem_nds ws).mp he
      have hix := oIx_l _ _ (tab_at (fun b => enc (ls ws w b)) .non ws.length (k + 1) e (by omega) (he'.2.1 hk))
      have hlp := line_price_ok ws w k e (room_bnd h h1 (by omega) (he'.2.1 hk) (Nat.le_of_lt hk))
      simp [room_of_ok, fit]
      by_cases c : 0 ≤ room ws w k e
      · cases q : ls ws w e with
        | none => simp [c, hix, q]
        | some m =>
          have hml : m.2.length ≤ 14 := by
            rw [ls_S ws w e (he'.2.1 hk)] at q
            obtain ⟨r, hr, rfl⟩ := List.mem_map.mp (minL_some.mp q).1
            have := S_len w e (he'.2.1 hk) r hr
            show r.length ≤ 14
            omega
          have hcat : oAdd (.tup [.int (k : Int)]) (.tup (m.2.map enc)) = .ok (.tup (.int (k : Int) :: m.2.map enc), false) := oAdd_tt _ _ (by rw [List.length_map, show sizeLine = 16777216 from rfl]; simp; omega)
          simp [c, hix, q, hl, hlp, hcat]
      · simp [c]
theorem prices_of_ok {ws : List Int} (h : Wd ws) {w : Int} (h1 : 1 ≤ w) (h2 : w ≤ 30) : F_prices_of [.tup (ws.map enc), .int w] = .ok (.tup (((List.range (ws.length + 1)).map fun b => (ls ws w b).map (·.1)).map enc), false) := by
  have hf := h.few
  have hl := lc_map (own := [2]) (it := (iVal (dCB F_least_settings [(dVar 0), (dVar 1)]))) (g := gN 2) (t := dYes) (elt := (dIf (dTB (dBin oIs (dVar 2) (dC .non))) (dC .non) (dIxS 2 (dC (.int 0)))))
    (env := [.frz (.tup (ws.map enc)), .frz (.int w), .emp]) (env1 := [.frz (.tup (ws.map enc)), .frz (.int w), .emp]) (List.range (ws.length + 1)) (fun b => enc (ls ws w b)) (fun b => enc ((ls ws w b).map (·.1))) (by simp [least_settings_ok h h1 h2]) (by simp) (by rw [List.length_range, show sizeLine = 16777216 from rfl]; omega) (fun b hb => ?_) (by simp)
  · simp [F_prices_of, runF, d_prices_of, check_page_ok h h1 h2, hl]
  · cases q : ls ws w b with
    | none => simp
    | some m => simp [oIx_t [Val.int m.1, .tup (m.2.map enc)] 0 (v := .int m.1) rfl]
end Lf

namespace Lf
open PySem PySem.Spec PyProof.Rows L2 PV
open EV (enc)
section
variable {ws : List Int} {w : Int}
theorem seg_sum_split (ws : List Int) {b m e : Nat} (h1 : b ≤ m) (h2 : m ≤ e) : (seg ws b e).sum = (seg ws b m).sum + (seg ws m e).sum := by
  unfold seg
  have : (ws.drop b).take (e - b) = (ws.drop b).take (m - b) ++ ((ws.drop b).drop (m - b)).take (e - m) := by
    rw [← List.take_add]
    congr 1
    omega
  rw [this, List.sum_append, List.drop_drop]
  congr 4
  omega
theorem seg_pos (h : ∀ x ∈ ws, 1 ≤ x) (b e : Nat) : 0 ≤ (seg ws b e).sum := by
  have : ∀ l : List Int, (∀ x ∈ l, 1 ≤ x) → 0 ≤ l.sum := fun l => by
    induction l with
    | nil => intro _; simp
    | cons x xs ih =>
      intro h
      have := ih fun y hy => h y (by simp [hy])
      have := h x (by simp)
      rw [List.sum_cons]; omega
  exact this _ fun x hx => h x (List.mem_of_mem_drop (List.mem_of_mem_take hx))
/-- a longer line has less room -/
theorem room_mono (h : ∀ x ∈ ws, 1 ≤ x) {b b' e e' : Nat} (h1 : b ≤ b') (h2 : b' ≤ e') (h3 : e' ≤ e) : room ws w b e ≤ room ws w b' e' := by
  have e1 := seg_sum_split ws h1 (Nat.le_trans h2 h3)
  have e2 := seg_sum_split ws h2 h3
  have p1 := seg_pos h b b'
  have p2 := seg_pos h e' e
  unfold room; omega
theorem seg_one {b : Nat} (hb : b < ws.length) : (seg ws b (b + 1)).sum = ws[b] := by
  unfold seg
  rw [show b + 1 - b = 1 by omega, List.drop_eq_getElem_cons hb]
  show (ws[b] :: List.take 0 _).sum = _
  rw [List.sum_cons, List.take_zero]; simp
theorem fit_one {b : Nat} (hb : b < ws.length) (hw : ∀ x ∈ ws, x ≤ w) : fit ws w b (b + 1) = true := by
  unfold fit room
  rw [seg_one hb]
  have := hw _ (List.getElem_mem hb)
  exact decide_eq_true (by omega)
/-- the greedy setting, so far -/
def gr (ws : List Int) (w : Int) (j : Nat) : List Nat := (List.range' 1 j).foldl (fsStep ws w) [0]
theorem gr_succ (j : Nat) : gr ws w (j + 1) = fsStep ws w (gr ws w j) (j + 1) := by
  unfold gr
  rw [List.range'_concat, List.foldl_append]
  simp [Nat.add_comm]
theorem gr_full : fullS ws w = gr ws w (ws.length - 1) := rfl
theorem gr_ok (h0 : 1 ≤ ws.length) (hw : ∀ x ∈ ws, x ≤ w) : ∀ j, j < ws.length → fit ws w (last0 (gr ws w j)) (j + 1) = true ∧ last0 (gr ws w j) ≤ j ∧ ∀ e s, last0 (gr ws w j) < e → e ≤ ws.length → fit ws w (last0 (gr ws w j)) e = true → s ∈ S ws w e → gr ws w j ++ s ∈ S ws w 0
  | 0, h => ⟨fit_one h0 hw, Nat.le_refl _, fun e s h1 h2 h3 h4 => (mem_S ws w h0).mpr ⟨e, s, h1, h2, h3, h4, rfl⟩⟩
  | j + 1, h => by
    obtain ⟨h1, h2, h3⟩ := gr_ok h0 hw j (by omega)
    rw [gr_succ]
    unfold fsStep
    by_cases c : room ws w (last0 (gr ws w j)) (j + 1 + 1) < 0
    · rw [if_pos c]
      have e1 : last0 (gr ws w j ++ [j + 1]) = j + 1 := by simp [last0]
      rw [e1]
      refine ⟨fit_one h hw, Nat.le_refl _, fun e s q1 q2 q3 q4 => ?_⟩
      rw [List.append_assoc]
      exact h3 (j + 1) _ (by omega) (by omega) h1 ((mem_S ws w h).mpr ⟨e, s, q1, q2, q3, q4, rfl⟩)
    · rw [if_neg c]
      exact ⟨decide_eq_true (by omega), by omega, h3⟩
theorem fullS_mem (h0 : 1 ≤ ws.length) (hw : ∀ x ∈ ws, x ≤ w) : fullS ws w ∈ S ws w 0 := by
  obtain ⟨h1, h2, h3⟩ := gr_ok h0 hw (ws.length - 1) (by omega)
  rw [show ws.length - 1 + 1 = ws.length by omega] at h1
  have := h3 ws.length [] (by omega) (Nat.le_refl _) h1 (by rw [S_top]; simp)
  rw [gr_full]
  simpa using this
theorem gr_least (h0 : 1 ≤ ws.length) (hp : ∀ x ∈ ws, 1 ≤ x) {r : List Nat} (hr : r ∈ S ws w 0) : ∀ j, j < ws.length → ∃ c p e s, p ≤ j ∧ j < e ∧ e ≤ ws.length ∧ fit ws w p e = true ∧ s ∈ S ws w e ∧ r.length = c + s.length ∧ (gr ws w j).length ≤ c ∧ ((gr ws w j).length = c → p ≤ last0 (gr ws w j))
  | 0, h => by
    obtain ⟨e, s, h1, h2, h3, h4, rfl⟩ := (mem_S ws w h0).mp hr
    exact ⟨1, 0, e, s, Nat.le_refl _, h1, h2, h3, h4, by rw [List.length_cons]; omega, Nat.le_refl _, fun _ => Nat.le_refl _⟩
  | j + 1, h => by
    obtain ⟨c, p, e, s, h1, h2, h3, h4, h5, h6, h7, h8⟩ := gr_least h0 hp hr j (by omega)
    rw [gr_succ]
    unfold fsStep
    by_cases q : j + 1 < e
    · refine ⟨c, p, e, s, by omega, q, h3, h4, h5, h6, ?_, ?_⟩
      · split
        · rename_i hb
          rw [List.length_append, List.length_singleton]
          have : (gr ws w j).length ≠ c := fun z => by
            have h8 := h8 z
            have r1 := room_mono (w := w) hp h8 (show last0 (gr ws w j) ≤ e by
              by_cases y : last0 (gr ws w j) ≤ e
              · exact y
              · exfalso
                have : ∀ k, k < ws.length → last0 (gr ws w k) ≤ k := fun k => by
                  induction k with
                  | zero => intro _; exact Nat.le_refl _
                  | succ k ih =>
                    intro hk
                    have := ih (by omega)
                    rw [gr_succ]; unfold fsStep
                    split
                    · simp [last0]
                    · omega
                have := this j (by omega)
                omega) (Nat.le_refl e)
            have lj : last0 (gr ws w j) ≤ j := by
              have : ∀ k, k < ws.length → last0 (gr ws w k) ≤ k := fun k => by
                induction k with
                | zero => intro _; exact Nat.le_refl _
                | succ k ih =>
                  intro hk
                  have := ih (by omega)
                  rw [gr_succ]; unfold fsStep
                  split
                  · simp [last0]
                  · omega
              exact this j (by omega)
            have r2 := room_mono (w := w) hp (Nat.le_refl (last0 (gr ws w j))) (show last0 (gr ws w j) ≤ j + 1 + 1 by omega) (show j + 1 + 1 ≤ e by omega)
            have := of_decide_eq_true h4
            omega
          omega
        · exact h7
      · split
        · intro _; simp [last0]; omega
        · exact h8
    · have hje : e = j + 1 := by omega
      subst hje
      obtain ⟨e', s', g1, g2, g3, g4, rfl⟩ := (mem_S ws w h).mp h5
      refine ⟨c + 1, j + 1, e', s', Nat.le_refl _, g1, g2, g3, g4, by rw [h6, List.length_cons]; omega, ?_, ?_⟩
      · split
        · rw [List.length_append, List.length_singleton]; omega
        · omega
      · split
        · intro _; simp [last0]
        · intro z; omega
theorem fullS_least (h0 : 1 ≤ ws.length) (hp : ∀ x ∈ ws, 1 ≤ x) {r : List Nat} (hr : r ∈ S ws w 0) : (fullS ws w).length ≤ r.length := by
  obtain ⟨c, p, e, s, h1, h2, h3, h4, h5, h6, h7, h8⟩ := gr_least h0 hp hr (ws.length - 1) (by omega)
  have he : e = ws.length := by omega
  subst he
  rw [S_top] at h5
  have : s = [] := by simpa using h5
  subst this
  rw [gr_full]
  simp at h6
  omega
/-- wide enough for one line -/
theorem fullS_one (h0 : 1 ≤ ws.length) (hp : ∀ x ∈ ws, 1 ≤ x) (hw : 0 ≤ room ws w 0 ws.length) : fullS ws w = [0] := by
  have : ∀ j, j < ws.length → gr ws w j = [0] := fun j => by
    induction j with
    | zero => intro _; rfl
    | succ j ih =>
      intro hj
      rw [gr_succ, ih (by omega)]
      unfold fsStep
      have := room_mono (w := w) hp (Nat.le_refl 0) (Nat.zero_le (j + 1 + 1)) (show j + 1 + 1 ≤ ws.length by omega)
      rw [if_neg (show ¬ (room ws w (last0 [0]) (j + 1 + 1) < 0) by
        show ¬ (room ws w 0 (j + 1 + 1) < 0)
        omega)]
  exact this _ (by omega)
end
end Lf

namespace Lf
open PySem PySem.Spec PyProof.Rows L2 PV
open EV (enc)
/-- a loop that stops at the first x without p x -/
theorem for_allp {α : Type} {S : Type} {g : GD} {b : SD} {v : Val} (E : S → EnvD) (e : α → Val) (p : α → Bool) : ∀ (xs : List α), (∀ x ∈ xs, ∀ tl, (g (e x) (E tl) >>= b).Is fun r => if p x = true then ∃ tl', r = .nx (E tl') else ∃ env, r = .ret v false env) →
    ∀ tl, (forLoop g b (xs.map e) (E tl)).Is fun r => if xs.all p = true then ∃ tl', r = .nx (E tl') else ∃ env, r = .ret v false env
  | [], h, tl => ⟨tl, rfl⟩
  | x :: xs, h, tl => by
    have h1 := h x (by simp) tl
    rw [is_bind] at h1
    obtain ⟨e1, q1, h2⟩ := h1.ex
    obtain ⟨r, q2, h3⟩ := h2.ex
    rw [List.map_cons]
    unfold forLoop
    rw [q1]
    simp only [res_ok_bind]
    rw [q2]
    cases hp : p x with
    | true =>
      rw [hp, if_pos rfl] at h3
      obtain ⟨tl1, rfl⟩ := h3
      have := for_allp E e p xs (fun y hy => h y (by simp [hy])) tl1
      simp only [res_ok_bind]
      simpa [hp] using this
    | false =>
      rw [hp, if_neg (by simp)] at h3
      obtain ⟨env, rfl⟩ := h3
      simp [hp]
/-- are the prices bound -/
def at0 (ps : List Int) (i : Nat) : Int := ps.getD i 0
def bdE (ws : List Int) (w : Int) (ps : List Int) (b e : Nat) : Bool := !(fit ws w b e && decide (lp ws w b e + at0 ps e < at0 ps b))
def bdB (ws : List Int) (w : Int) (ps : List Int) (b : Nat) : Bool := (nds ws b).all (bdE ws w ps b)
def bdA (ws : List Int) (w : Int) (ps : List Int) : Bool := (List.range ws.length).all (bdB ws w ps)
def bd (ws : List Int) (w : Int) (ps : List Int) : Bool := decide (at0 ps ws.length = 0) && bdA ws w ps
theorem at_at0 {ps : List Int} {i : Nat} (h : i < ps.length) : atI (ps.map (enc : Int → Val)) (i : Int) = some (.int (at0 ps i)) := by
  rw [atI_map, atI_nat' h, at0, List.getD_eq_getElem?_getD, List.getElem?_eq_getElem h]; rfl
theorem at_last {ps : List Int} {n : Nat} (h : ps.length = n + 1) : atI (ps.map (enc : Int → Val)) (-1) = some (.int (at0 ps n)) := by
  apply atI_last'
  rw [List.getLast?_map, List.getLast?_eq_getElem?, h, Nat.add_sub_cancel, at0, List.getD_eq_getElem?_getD, List.getElem?_eq_getElem (by omega)]; rfl
theorem are_bound_ok {ws : List Int} (h : Wd ws) {w : Int} (h1 : 1 ≤ w) (h2 : w ≤ 30) {ps : List Int} (hp : ps.length = ws.length + 1) (hb : ∀ p ∈ ps, 0 ≤ p ∧ p ≤ 100000) : F_are_bound [.tup (ws.map enc), .int w, .tup (ps.map enc)] = .ok (.bl (bd ws w ps), false) := by
  have hf := h.few
  have hall : (ps.all fun x => decide (0 ≤ x) && decide (x ≤ 100000)) = true := by
    rw [List.all_eq_true]; intro x hx; have := hb x hx; simp [this.1, this.2]
  have hl := lc_map (own := [6]) (it := iVal (dVar 2)) (g := gN 6) (t := dYes) (elt := (dCB F_is_within [(dVar 6), (dC (.int 0)), (dC (.int 100000))]))
    (env := [.frz (.tup (ws.map enc)), .frz (.int w), .frz (.tup (ps.map enc)), .frz (.int ((ws.length : Int) + 1)), .emp, .emp, .emp]) (env1 := [.frz (.tup (ws.map enc)), .frz (.int w), .frz (.tup (ps.map enc)), .frz (.int ((ws.length : Int) + 1)), .emp, .emp, .emp])
    ps enc (fun x => .bl (decide (0 ≤ x) && decide (x ≤ 100000))) (by simp) (by simp) (by rw [show sizeLine = 16777216 from rfl]; omega) (fun x hx => by simp [is_within_i]) (by simp)
  have hlast := oIx_t _ _ (at_last hp)
  have hsz := is_sized_t (ps.map enc) ((ws.length : Int) + 1) ((ws.length : Int) + 1)
  rw [List.length_map, hp] at hsz
  simp at hsz
  simp [F_are_bound, runF, d_are_bound, check_page_ok h h1 h2, hsz, hl, hall, hlast, bd]
  by_cases c : at0 ps ws.length = 0
  · have hr := range_1 ws.length (by omega)
    simp [c, hr]
    have key := for_allp (g := gN 4) (b := (sFor (iRng [(dBin oAdd (dVar 4) (dC (.int 1))), (dBin oAdd (dCBS oLen 0) (dC (.int 1)))]) (gN 5) (sIf (dAndT (dTB (dBin oGe (dCB F_room_of [(dVar 0), (dVar 1), (dVar 4), (dVar 5)]) (dC (.int 0)))) (dTB (dBin oGt (dIxS 2 (dVar 4)) (dBin oAdd (dCB F_line_price [(dVar 0), (dVar 1), (dVar 4), (dVar 5)]) (dIxS 2 (dVar 5)))))) (sRet (dC (.bl false))) sNil)))
      (v := .bl false) (fun (tl : PV.Slot × PV.Slot) => [.frz (.tup (ws.map enc)), .frz (.int w), .frz (.tup (ps.map enc)), .frz (.int ((ws.length : Int) + 1)), tl.1, tl.2, .emp]) enc
      (bdB ws w ps) (List.range ws.length) (fun b hb' tl => ?_) (.emp, .emp)
    · obtain ⟨r, k1, k2⟩ := key.ex
      simp only at k1
      rw [k1]
      rw [show (List.range ws.length).all (bdB ws w ps) = bdA ws w ps from rfl] at k2
      cases q : bdA ws w ps with
      | true =>
        rw [q, if_pos rfl] at k2
        obtain ⟨tl, rfl⟩ := k2
        simp
      | false =>
        rw [q, if_neg (by simp)] at k2
        obtain ⟨env, rfl⟩ := k2
        simp
    · have hbn : b < ws.length := by simpa using hb'
      simp [rng_nds h (Nat.le_of_lt hbn)]
      have inner := for_allp (g := gN 5) (b := (sIf (dAndT (dTB (dBin oGe (dCB F_room_of [(dVar 0), (dVar 1), (dVar 4), (dVar 5)]) (dC (.int 0)))) (dTB (dBin oGt (dIxS 2 (dVar 4)) (dBin oAdd (dCB F_line_price [(dVar 0), (dVar 1), (dVar 4), (dVar 5)]) (dIxS 2 (dVar 5)))))) (sRet (dC (.bl false))) sNil))
        (v := .bl false) (fun (tl : PV.Slot) => [.frz (.tup (ws.map enc)), .frz (.int w), .frz (.tup (ps.map enc)), .frz (.int ((ws.length : Int) + 1)), .frz (.int b), tl, .emp]) enc
        (bdE ws w ps b) (nds ws b) (fun e he tl => ?_) tl.2
      · refine inner.mono fun r hr => ?_
        rw [show (nds ws b).all (bdE ws w ps b) = bdB ws w ps b from rfl] at hr
        cases q : bdB ws w ps b with
        | true =>
          rw [q, if_pos rfl] at hr
          obtain ⟨t, rfl⟩ := hr
          rw [if_pos rfl]
          exact ⟨_, _, rfl⟩
        | false =>
          rw [q, if_neg (by simp)] at hr
          rw [if_neg (by simp)]
          exact hr
      · have he' := (mem_nds ws).mp he
        have en := he'.2.1 hbn
        have hlp := line_price_ok ws w b e (room_bnd h h1 (by omega) en (Nat.le_of_lt hbn))
        have i1 := oIx_t _ _ (at_at0 (ps := ps) (i := b) (by omega))
        have i2 := oIx_t _ _ (at_at0 (ps := ps) (i := e) (by omega))
        simp [room_of_ok, bdE, fit]
        by_cases c1 : 0 ≤ room ws w b e
        · simp [c1, hlp, i1, i2]
          by_cases c2 : lp ws w b e + at0 ps e < at0 ps b
          · simp [c2]; omega
          · simp [c2]; omega
        · simp [c1] <;> omega
  · simp [c]
/-! the law's own -/
def long (ws : List Int) (b e : Nat) : Int := (seg ws b e).sum + e - b - 1
theorem law_long_ok (ws : List Int) (b e : Nat) : F__law_long [.tup (ws.map enc), .int b, .int e] = .ok (.int (long ws b e), false) := by
  simp [F__law_long, runF, d__law_long]
  rw [cut_nn]; rfl
theorem long_room (ws : List Int) (w : Int) (b e : Nat) : w - long ws b e = room ws w b e := by unfold long room; omega
theorem long_fit (ws : List Int) (w : Int) (b e : Nat) : decide (long ws b e ≤ w) = fit ws w b e := by
  unfold fit
  rw [← long_room ws w b e]
  by_cases c : long ws b e ≤ w
  · rw [decide_eq_true c, decide_eq_true (by omega)]
  · rw [decide_eq_false c, decide_eq_false (by omega)]
theorem law_bound_ok {ws : List Int} (h : Wd ws) {w : Int} (h1 : 1 ≤ w) (h2 : w ≤ 30) {ps : List Int} (hp : ps.length = ws.length + 1) : F__law_bound [.tup (ws.map enc), .int w, .tup (ps.map enc)] = .ok (.bl (bd ws w ps), false) := by
  have hf := h.few
  have hlast := oIx_t _ _ (at_last hp)
  simp [F__law_bound, runF, d__law_bound, hlast, bd]
  by_cases c : at0 ps ws.length = 0
  · have hr := range_1 ws.length (by omega)
    simp [c, hr]
    have key := for_allp (g := gN 4) (b := (sFor (iRng [(dBin oAdd (dVar 4) (dC (.int 1))), (dBin oAdd (dVar 3) (dC (.int 1)))]) (gN 5) (sSeq (sOwn (dBin oSub (dVar 1) (dCB F__law_long [(dVar 0), (dVar 4), (dVar 5)])) 6)
    (sSeq (sOwn (dIf (dTB (dBin oEq (dVar 5) (dVar 3))) (dC (.int 0)) (dBin oAdd (dBin oMul (dVar 6) (dVar 6)) (dIxS 2 (dVar 5)))) 7)
    (sIf (dAndT (dTB (dBin oGe (dVar 6) (dC (.int 0)))) (dTB (dBin oGt (dIxS 2 (dVar 4)) (dVar 7)))) (sRet (dC (.bl false))) sNil)))))
      (v := .bl false) (fun (tl : PV.Slot × PV.Slot × PV.Slot × PV.Slot) => [.frz (.tup (ws.map enc)), .frz (.int w), .frz (.tup (ps.map enc)), .frz (.int (ws.length : Int)), tl.1, tl.2.1, tl.2.2.1, tl.2.2.2]) enc
      (bdB ws w ps) (List.range ws.length) (fun b hb' tl => ?_) (.emp, .emp, .emp, .emp)
    · obtain ⟨r, k1, k2⟩ := key.ex
      simp only at k1
      rw [k1]
      rw [show (List.range ws.length).all (bdB ws w ps) = bdA ws w ps from rfl] at k2
      cases q : bdA ws w ps with
      | true =>
        rw [q, if_pos rfl] at k2
        obtain ⟨tl, rfl⟩ := k2
        simp
      | false =>
        rw [q, if_neg (by simp)] at k2
        obtain ⟨env, rfl⟩ := k2
        simp
    · have hbn : b < ws.length := by simpa using hb'
      simp [rng_nds h (Nat.le_of_lt hbn)]
      have inner := for_allp (g := gN 5) (b := (sSeq (sOwn (dBin oSub (dVar 1) (dCB F__law_long [(dVar 0), (dVar 4), (dVar 5)])) 6)
    (sSeq (sOwn (dIf (dTB (dBin oEq (dVar 5) (dVar 3))) (dC (.int 0)) (dBin oAdd (dBin oMul (dVar 6) (dVar 6)) (dIxS 2 (dVar 5)))) 7)
    (sIf (dAndT (dTB (dBin oGe (dVar 6) (dC (.int 0)))) (dTB (dBin oGt (dIxS 2 (dVar 4)) (dVar 7)))) (sRet (dC (.bl false))) sNil))))
        (v := .bl false) (fun (tl : PV.Slot × PV.Slot × PV.Slot) => [.frz (.tup (ws.map enc)), .frz (.int w), .frz (.tup (ps.map enc)), .frz (.int (ws.length : Int)), .frz (.int b), tl.1, tl.2.1, tl.2.2]) enc
        (bdE ws w ps b) (nds ws b) (fun e he tl => ?_) (tl.2.1, tl.2.2.1, tl.2.2.2)
      · refine inner.mono fun r hr => ?_
        rw [show (nds ws b).all (bdE ws w ps b) = bdB ws w ps b from rfl] at hr
        cases q : bdB ws w ps b with
        | true =>
          rw [q, if_pos rfl] at hr
          obtain ⟨t, rfl⟩ := hr
          rw [if_pos rfl]
          exact ⟨_, _, _, _, rfl⟩
        | false =>
          rw [q, if_neg (by simp)] at hr
          rw [if_neg (by simp)]
          exact hr
      · have he' := (mem_nds ws).mp he
        have en := he'.2.1 hbn
        have rb := room_bnd h h1 (show w ≤ 300 by omega) en (Nat.le_of_lt hbn)
        have hm : mulOk (room ws w b e) (room ws w b e) = true := by
          unfold mulOk
          rw [decide_eq_true (show (room ws w b e).natAbs < 2 ^ 64 by omega)]; rfl
        have i1 := oIx_t _ _ (at_at0 (ps := ps) (i := b) (by omega))
        have i2 := oIx_t _ _ (at_at0 (ps := ps) (i := e) (by omega))
        simp [law_long_ok, bdE, fit, long_room]
        by_cases c3 : e = ws.length
        · subst c3
          simp [lp, c]
          by_cases c1 : 0 ≤ room ws w b ws.length
          · simp [c1, i1]
            by_cases c2 : 0 < at0 ps b
            · simp [c2] <;> omega
            · simp [c2] <;> omega
          · simp [c1] <;> omega
        · have c3' : ¬ ((e : Int) = ws.length) := by omega
          simp [c3, c3', oMul_ii _ _ hm, i2, lp]
          by_cases c1 : 0 ≤ room ws w b e
          · simp [c1, i1]
            by_cases c2 : room ws w b e * room ws w b e + at0 ps e < at0 ps b
            · simp [c2] <;> omega
            · simp [c2] <;> omega
          · simp [c1] <;> omega
  · simp [c]
/-! least_width -/
theorem maxW {ws : List Int} (h : Wd ws) : ∃ m, maxL ws = some m ∧ 1 ≤ m ∧ m ≤ 12 ∧ ∀ x ∈ ws, x ≤ m := by
  cases e : maxL ws with
  | none => rw [maxL_none] at e; have := h.one; rw [e] at this; simp at this
  | some m =>
    obtain ⟨h1, h2⟩ := maxL_some.mp e
    have := h.all m h1
    exact ⟨m, rfl, this.1, this.2, fun x hx => by have := of_decide_eq_false (h2 x hx); omega⟩
/-- a width from m on at which the lines are few enough, the first one -/
structure LeastW (ws : List Int) (lines m v : Int) : Prop where
  ge : m ≤ v
  le : ((fullS ws v).length : Int) ≤ lines
  no : ∀ u, m ≤ u → u < v → lines < ((fullS ws u).length : Int)
theorem LeastW.one {ws : List Int} {lines m v v' : Int} (a : LeastW ws lines m v) (b : LeastW ws lines m v') : v = v' := by
  have h1 : ¬ v < v' := fun h => by have := b.no v a.ge h; have := a.le; omega
  have h2 : ¬ v' < v := fun h => by have := a.no v' b.ge h; have := b.le; omega
  omega
theorem wide_one {ws : List Int} (h : Wd ws) {lines : Int} (hl : 1 ≤ lines) {u : Int} (hu : lines < ((fullS ws u).length : Int)) : u < 190 := by
  by_cases c : u < 190
  · exact c
  · have q := seg_bnd (ws := seg ws 0 ws.length) fun x hx => h.all x (List.mem_of_mem_drop (List.mem_of_mem_take hx))
    have l : (seg ws 0 ws.length).length ≤ ws.length := by unfold seg; simp
    have hf := h.few
    rw [fullS_one h.one (fun x hx => (h.all x hx).1) (by unfold room; omega)] at hu
    simp at hu; omega
theorem least_width_ok {ws : List Int} (h : Wd ws) {lines m : Int} (h1 : 1 ≤ lines) (h2 : lines ≤ 14) (hm : maxL ws = some m) : ∃ v, F_least_width [.tup (ws.map enc), .int lines] = .ok (.int v, false) ∧ LeastW ws lines m v := by
  obtain ⟨m', e, m1, m2, m3⟩ := maxW h
  rw [hm] at e; cases e
  have hb := max_mapT ws (by decide) m hm
  simp at hb
  have key := while_inv (t := (dTB (dBin oGt (dCB (on1 oLen) [(dCB F_full_setting [(dVar 0), (dVar 2)])]) (dVar 1)))) (b := (sAug 2 (fun i j => i + j) (dC (.int 1)))) (Q := fun r => ∃ v, r = .nx [.frz (.tup (ws.map enc)), .frz (.int lines), .frz (.int v)] ∧ LeastW ws lines m v)
    (fun k env => ∃ v, env = [.frz (.tup (ws.map enc)), .frz (.int lines), .frz (.int v)] ∧ (k : Int) = 195 - v ∧ m ≤ v ∧ v ≤ 190 ∧ ∀ u, m ≤ u → u < v → lines < ((fullS ws u).length : Int)) ?_ 200 (195 - m).toNat
    [.frz (.tup (ws.map enc)), .frz (.int lines), .frz (.int m)] (by omega) ⟨m, rfl, by omega, by omega, by omega, fun u a b => by omega⟩
  · obtain ⟨r, k1, v, rfl, k2⟩ := key.ex
    refine ⟨v, ?_, k2⟩
    simp [F_least_width, runF, d_least_width, check_words_ok h, is_within_i, h1, h2, hb]
    rw [k1]
    simp
  · rintro k env ⟨v, rfl, kv, mv, v2, no⟩
    simp [full_setting_ok h]
    by_cases c : lines < ((fullS ws v).length : Int)
    · have := wide_one h h1 c
      simp [c, oAug]
      refine ⟨by omega, ⟨by omega, by omega, by omega, fun u a b => ?_⟩⟩
      by_cases e : u = v
      · rw [e]; exact c
      · exact no u a (by omega)
    · simp [c]
      exact ⟨mv, by omega, no⟩
end Lf

namespace Lf
open PySem PySem.Spec PyProof.Rows L2 PV
open EV (enc)
section
variable (a b c d e v : Val)
@[simp] theorem ix5_0 : oIx (.lst [a, b, c, d, e]) (.int 0) = .ok (a, false) := rfl
@[simp] theorem ix5_1 : oIx (.lst [a, b, c, d, e]) (.int 1) = .ok (b, false) := rfl
@[simp] theorem ix5_2 : oIx (.lst [a, b, c, d, e]) (.int 2) = .ok (c, false) := rfl
@[simp] theorem ix5_3 : oIx (.lst [a, b, c, d, e]) (.int 3) = .ok (d, false) := rfl
@[simp] theorem ix5_4 : oIx (.lst [a, b, c, d, e]) (.int 4) = .ok (e, false) := rfl
@[simp] theorem st5_1 : setV (.lst [a, b, c, d, e]) (.int 1) v = some (.lst [a, v, c, d, e]) := rfl
@[simp] theorem st5_2 : setV (.lst [a, b, c, d, e]) (.int 2) v = some (.lst [a, b, v, d, e]) := rfl
@[simp] theorem st5_3 : setV (.lst [a, b, c, d, e]) (.int 3) v = some (.lst [a, b, c, v, e]) := rfl
@[simp] theorem st5_4 : setV (.lst [a, b, c, d, e]) (.int 4) v = some (.lst [a, b, c, d, v]) := rfl
end
/-- the hand -/
def GH (h : Val) : Prop := ∃ (cells : List Int) (i c s n : Int), h = .lst [.lst (cells.map enc), .int i, .int c, .int s, .int n] ∧ 0 ≤ i
theorem mul_l {i j : Int} (h : i.natAbs < 2 ^ 64) : mulOk i j = true := by unfold mulOk; rw [decide_eq_true h]; rfl
theorem mul_r {i j : Int} (h : j.natAbs < 2 ^ 64) : mulOk i j = true := by unfold mulOk; rw [decide_eq_true h, Bool.or_true]
/-- the second half of a draw -/
def draw2 : SD := (sSeq (sIf (dTB (dBin oGt (dIxS 0 (dC (.int 2))) (dC (.int 0)))) (sSeq (sOwn (dBin oMod (dCB (on1 oInt) [(dIxS 0 (dC (.int 2)))]) (dVar 1)) 4)
    (sSeq (sSet 0 (dC (.int 2)) (dBin oDiv (dIxS 0 (dC (.int 2))) (dVar 1)))
    (sRetF (dVar 4)))) sNil)
    (sSeq (sSet 0 (dC (.int 4)) (dBin oAdd (dIxS 0 (dC (.int 4))) (dC (.int 1))))
    (sSeq (sOwn (dBin oMod (dCB (on1 oInt) [(dBin oMul (dCB (on1 oInt) [(dBin oAdd (dIxS 0 (dC (.int 3))) (dBin oMul (dC (.int 7877)) (dIxS 0 (dC (.int 4)))))]) (dC (.int 69621)))]) (dC (.int 2147483647))) 2)
    (sSeq (sOwn (dBin oMod (dCB (on1 oInt) [(dBin oMul (dVar 2) (dBin oAdd (dBin oDiv (dVar 2) (dC (.int 1103))) (dC (.int 40692))))]) (dC (.int 2147483399))) 2)
    (sSeq (sOwn (dBin oMod (dCB (on1 oInt) [(dBin oMul (dVar 2) (dBin oAdd (dBin oDiv (dVar 2) (dC (.int 2311))) (dC (.int 48271))))]) (dC (.int 2147483629))) 2)
    (sRetF (dBin oMod (dCB (on1 oInt) [(dBin oDiv (dVar 2) (dC (.int 16)))]) (dVar 1))))))))
def kH : SR → Res (Val × Val) := fun r => match r with
  | SR.ret v false env => (match (env[0]? : Option PV.Slot) with
    | some (PV.Slot.own h') => .ok (v, h')
    | _ => .bad)
  | _ => .bad
@[simp] theorem kH_ret (v : Val) (h : Val) (env : EnvD) : kH (.ret v false (.own h :: env)) = .ok (v, h) := rfl
theorem runH_k {N m : Nat} {d : SD} {h : Val} {ws : List Val} {Q : Val × Val → Prop} (hl : ws.length + 1 = m) (q : (d (env0H N h ws) >>= kH).Is Q) : (runH N m d h ws).Is Q := by
  unfold runH
  rw [if_pos hl]
  cases e : d (env0H N h ws) with
  | ok r =>
    rw [e] at q
    cases r with
    | ret v o env => cases o <;> exact q
    | nx _ => exact q
    | brk _ => exact q
    | cnt _ => exact q
  | exc c p => rw [e] at q; exact q
  | bad => rw [e] at q; exact q
abbrev Drawn (many : Nat) (r : Val × Val) : Prop := ∃ d : Nat, r.1 = .int (d : Int) ∧ d < many ∧ GH r.2
theorem draw2_ok {many : Nat} (h1 : 0 < many) (h2 : many < 1000000) (cells : List Int) (i c s n : Int) (hi : 0 ≤ i) (t2 t3 t4 : PV.Slot) :
    (draw2 [.own (.lst [.lst (cells.map enc), .int i, .int c, .int s, .int n]), .frz (.int (many : Int)), t2, t3, t4] >>= kH).Is (Drawn many) := by
  have hm : (0 : Int) < (many : Int) := by omega
  have hm2 : (many : Int) < 1073741824 := by omega
  unfold draw2
  by_cases hc : 0 < c
  · have f1 := oMod_ii c many hm
    have f2 := oDiv_ii c many hm hm2
    simp [hc, f1, f2]
    have m1 := Int.emod_nonneg c (show (many : Int) ≠ 0 by omega)
    have m2 := Int.emod_lt_of_pos c hm
    exact ⟨(c % many).toNat, by rw [Int.toNat_of_nonneg m1], by omega, cells, i, c / many, s, n, rfl, hi⟩
  · have e1 := oMul_ii 7877 (n + 1) (mul_l (by decide))
    have e2 := oMul_ii (s + 7877 * (n + 1)) 69621 (mul_r (by decide))
    have e3 := oMod_ii ((s + 7877 * (n + 1)) * 69621) 2147483647 (by decide)
    generalize hx : (s + 7877 * (n + 1)) * 69621 % 2147483647 = x at e3
    have x1 : 0 ≤ x := by omega
    have x2 : x < 2147483647 := by omega
    have e4 := oDiv_ii x 1103 (by decide) (by decide)
    have e5 := oMul_ii x (x / 1103 + 40692) (mul_l (by omega))
    have e6 := oMod_ii (x * (x / 1103 + 40692)) 2147483399 (by decide)
    generalize hy : x * (x / 1103 + 40692) % 2147483399 = y at e6
    have y1 : 0 ≤ y := by omega
    have y2 : y < 2147483399 := by omega
    have e7 := oDiv_ii y 2311 (by decide) (by decide)
    have e8 := oMul_ii y (y / 2311 + 48271) (mul_l (by omega))
    have e9 := oMod_ii (y * (y / 2311 + 48271)) 2147483629 (by decide)
    generalize hz : y * (y / 2311 + 48271) % 2147483629 = z at e9
    have e10 := oDiv_ii z 16 (by decide) (by decide)
    have e11 := oMod_ii (z / 16) many hm
    simp [hc, e1, e2, e3, e4, e5, e6, e7, e8, e9, e10, e11]
    have m1 := Int.emod_nonneg (z / 16) (show (many : Int) ≠ 0 by omega)
    have m2 := Int.emod_lt_of_pos (z / 16) hm
    exact ⟨(z / 16 % many).toNat, by rw [Int.toNat_of_nonneg m1], by omega, cells, i, c, s, n + 1, rfl, hi⟩
theorem seq_k (d1 d2 : SD) (env : EnvD) (k : SR → Res (Val × Val)) : (sSeq d1 d2 env >>= k) = (d1 env >>= fun r => (match r with
  | .nx env => d2 env
  | r => .ok r) >>= k) := by
  show ((d1 env >>= _) >>= k) = _
  cases d1 env <;> rfl
def draw1 : SD := (sIf (dAndT (dTB (dBin oEq (dIxS 0 (dC (.int 2))) (dC (.int 0)))) (dTB (dBin oLt (dIxS 0 (dC (.int 1))) (dCB (on1 oLen) [(dIxS 0 (dC (.int 0)))])))) (sSeq (sOwn (dBin oIx (dIxS 0 (dC (.int 0))) (dIxS 0 (dC (.int 1)))) 3)
    (sSeq (sSet 0 (dC (.int 1)) (dBin oAdd (dIxS 0 (dC (.int 1))) (dC (.int 1))))
    (sSeq (sSet 0 (dC (.int 3)) (dBin oMod (dCB (on1 oInt) [(dBin oAdd (dBin oAdd (dBin oMul (dIxS 0 (dC (.int 3))) (dC (.int 48271))) (dBin oMul (dVar 3) (dC (.int 5)))) (dC (.int 29)))]) (dC (.int 2147483587))))
    (sSet 0 (dC (.int 2)) (dIf (dTB (dBin oGe (dVar 3) (dBin oPow (dC (.int 10)) (dC (.int 18))))) (dVar 3) (dC (.int 0))))))) sNil)
theorem law_draw_ok {h : Val} (g : GH h) {many : Nat} (h1 : 0 < many) (h2 : many < 1000000) : (F__law_draw h [.int (many : Int)]).Is (Drawn many) := by
  obtain ⟨cells, i, c, s, n, rfl, hi⟩ := g
  unfold F__law_draw
  refine runH_k rfl ?_
  rw [show d__law_draw = sSeq draw1 draw2 from rfl, seq_k]
  have two := fun cells i c s n hi t2 t3 t4 => draw2_ok h1 h2 cells i c s n hi t2 t3 t4
  unfold draw1
  by_cases hc : c = 0 ∧ i < (cells.length : Int)
  · obtain ⟨hc0, hl⟩ := hc
    subst hc0
    obtain ⟨x, hat⟩ : ∃ x, atI (cells.map (enc : Int → Val)) i = some (.int x) := by
      have hj : i.toNat < cells.length := by omega
      have e : i = ((i.toNat : Nat) : Int) := by omega
      refine ⟨cells[i.toNat], ?_⟩
      have := atI_nat' (xs := cells) hj
      rw [← e] at this
      rw [atI_map, this]; rfl
    have hix := oIx_l _ _ hat
    have e1 := oMul_ii s 48271 (mul_r (by decide))
    have e2 := oMul_ii x 5 (mul_r (by decide))
    have e3 := oMod_ii (s * 48271 + x * 5 + 29) 2147483587 (by decide)
    by_cases hx : 1000000000000000000 ≤ x
    · simp [hl, hix, e1, e2, e3, hx]
      exact two cells (i + 1) x _ n (by omega) _ _ _
    · simp [hl, hix, e1, e2, e3, hx]
      exact two cells (i + 1) 0 _ n (by omega) _ _ _
  · by_cases hc0 : c = 0
    · have hl : ¬ i < (cells.length : Int) := fun z => hc ⟨hc0, z⟩
      simp [hc0, hl]
      exact two cells i 0 s n hi .emp .emp .emp
    · simp [hc0]
      exact two cells i c s n hi .emp .emp .emp
end Lf

namespace Lf
open PySem PySem.Spec PyProof.Rows L2 PV
open EV (enc)
@[simp] theorem dCallH_a (F : FnH) (i : Nat) (ds : List ED) (env : EnvD) : dCallH F i ds env = ((match env[i]? with
  | some (.own _) => dList ds env >>= fun r => (match r.2[i]? with
    | some (.own h) => (match F h r.1 with
      | .ok z => .ok (z.1, false, r.2.set i (.own z.2))
      | _ => .bad)
    | _ => .bad)
  | _ => .bad) : Res ER) := rfl
theorem drawI {h : Val} (g : GH h) {many : Int} (h1 : 0 < many) (h2 : many < 1000000) : ∃ (d : Nat) (h' : Val), F__law_draw h [.int many] = .ok (.int (d : Int), h') ∧ (d : Int) < many ∧ GH h' := by
  have := law_draw_ok g (many := many.toNat) (by omega) (by omega)
  rw [show ((many.toNat : Nat) : Int) = many by omega] at this
  obtain ⟨⟨v, h'⟩, e, d, e1, e2, e3⟩ := this.ex
  simp only at e1
  subst e1
  exact ⟨d, h', e, by omega, e3⟩
theorem law_hand_ok (is : List Int) (hl : is.length ≤ 63) : ∃ h, F__law_hand [.scr is] = .ok (h, true) ∧ GH h := by
  have hz : is.length ≤ sizeLine := by rw [show sizeLine = 16777216 from rfl]; omega
  have hs : oSl (.scr is) none (some 63) = .ok (.lst ((cut is none (some 63)).map enc), true) := by
    show (if is.length ≤ sizeLine then _ else _) = _
    rw [if_pos hz, show List.map Val.int is = is.map enc from rfl, cutD_map]
  have hc : (cut is none (some 63)).length ≤ 63 := by
    unfold cut; rw [List.length_take, List.length_drop]; omega
  generalize cut is none (some 63) = cs at hs hc
  have hm := lc_map (own := [2]) (it := (iVal (dSl (dVar 0) pNone (pSome (dC (.int 63)))))) (g := gN 2) (t := dYes) (elt := (dCB (on1 oAbs) [(dCB (on1 oInt) [(dVar 2)])])) (env := [.frz (.scr is), .emp, .emp]) (env1 := [.frz (.scr is), .emp, .emp])
    cs enc (fun c => .int (if c < 0 then -c else c)) (by simp [hs]) (by simp) (by rw [show sizeLine = 16777216 from rfl]; omega) (fun c _ => by simp) (by simp)
  have e1 := oMul_ii 5 (cs.length : Int) (mul_l (by decide))
  refine ⟨.lst [.lst ((cs.map fun c => if c < 0 then -c else c).map enc), .int 0, .int 0, .int (83 + 5 * (cs.length : Int)), .int 0], ?_, _, 0, 0, _, 0, rfl, by omega⟩
  simp [F__law_hand, runF, d__law_hand, hm, e1]
theorem law_some_l {α : Type} [EV α] {h : Val} (g : GH h) (xs : List α) (h1 : xs ≠ []) (h2 : xs.length < 1000000) : ∃ (x : α) (h' : Val), F__law_some h [.lst (xs.map enc)] = .ok (enc x, h') ∧ x ∈ xs ∧ GH h' := by
  have hp := List.length_pos_iff.mpr h1
  obtain ⟨d, h', e, e2, e3⟩ := drawI g (many := xs.length) (by omega) (by omega)
  have hd : d < xs.length := by omega
  have hix := oIx_l (xs.map enc) d (v := enc xs[d]) (by rw [atI_map, atI_nat' hd]; rfl)
  refine ⟨xs[d], h', ?_, List.getElem_mem hd, e3⟩
  simp [F__law_some, runH, d__law_some, e, hix]
theorem law_words_ok {h : Val} (g : GH h) {most : Int} (h1 : 0 < most) (h2 : most ≤ 14) : ∃ (ws : List Int) (h' : Val), F__law_words h [.int most] = .ok (.tup (ws.map enc), h') ∧ Wd ws ∧ (ws.length : Int) ≤ most ∧ GH h' := by
  obtain ⟨d, h0, e, e2, e3⟩ := drawI g h1 (by omega)
  have hr := range_1 (1 + d) (by omega)
  have key := lc_inv (own := [2]) (it := (iRng [(dBin oAdd (dC (.int 1)) (dCallH F__law_draw 0 [(dVar 1)]))])) (g := gN 2) (t := dYes) (elt := (dBin oAdd (dC (.int 1)) (dCallH F__law_draw 0 [(dCallH F__law_some 0 [(dLst [(dC (.int 4)), (dC (.int 12))])])])))
    (env := [.own h, .frz (.int most), .emp]) (env1 := [.own h0, .frz (.int most), .emp]) (vs := (List.range (1 + d)).map enc)
    (Q := fun r => ∃ (ws : List Int) (h' : Val), r = (.lst (ws.map enc), true, [.own h', .frz (.int most), .emp]) ∧ ws.length = 1 + d ∧ (∀ x ∈ ws, 1 ≤ x ∧ x ≤ 12) ∧ GH h')
    (fun i acc env => ∃ (ws : List Int) (h' : Val), acc = ws.map enc ∧ env = [.own h', .frz (.int most), .emp] ∧ ws.length = i ∧ (∀ x ∈ ws, 1 ≤ x ∧ x ≤ 12) ∧ GH h')
    (by simp at hr; simp [e, hr]) (by simp) (by rw [List.length_map, List.length_range, show sizeLine = 16777216 from rfl]; omega) ⟨[], h0, rfl, by simp, rfl, by simp, e3⟩
    (fun i hi acc env ⟨ws, h', ea, ee, el, ew, eg⟩ => ?_) (fun acc env ⟨ws, h', ea, ee, el, ew, eg⟩ => ⟨ws, h', by subst ea ee; simp, by simpa using el, ew, eg⟩)
  · obtain ⟨r, k1, ws, h', k2, k3, k4, k5⟩ := key.ex
    subst k2
    refine ⟨ws, h', ?_, ⟨by omega, by omega, k4⟩, by omega, k5⟩
    simp [F__law_words, runH, d__law_words, k1]
  · subst ea ee
    obtain ⟨m, h2', q1, q2, q3⟩ := law_some_l eg [(4 : Int), 12] (by simp) (by simp)
    simp at q1
    have hm : 0 < m ∧ m ≤ 12 := by
      rcases List.mem_cons.mp q2 with rfl | q2
      · decide
      · rcases List.mem_cons.mp q2 with rfl | q2
        · decide
        · cases q2
    obtain ⟨x, h3, q4, q5, q6⟩ := drawI q3 hm.1 (by omega)
    simp [q1, q4]
    refine ⟨ws ++ [1 + (x : Int)], by simp, by simp [el], fun y hy => ?_, q6⟩
    rcases List.mem_append.mp hy with hy | hy
    · exact ew y hy
    · obtain rfl : y = 1 + (x : Int) := by simpa using hy
      omega
end Lf

namespace Lf
open PySem PySem.Spec PyProof.Rows L2 PV
open EV (enc)
/-! ### the law's list of settings -/
section
variable (ws : List Int) (w : Int)
def ext (row : List Nat) : List (List Nat) := ((List.range' (last0 row + 1) (ws.length - (last0 row + 1))).filter (fit ws w (last0 row))).map fun e => row ++ [e]
def fin (row : List Nat) : Bool := fit ws w (last0 row) ws.length
def comp (row : List Nat) : List (List Nat) := (S ws w (last0 row)).map (row.dropLast ++ ·)
theorem last0_snoc (row : List Nat) (e : Nat) : last0 (row ++ [e]) = e := by simp [last0]
theorem snoc_last {row : List Nat} (h : row ≠ []) : row.dropLast ++ [last0 row] = row := by
  have := List.dropLast_concat_getLast h
  rw [last0, List.getLast?_eq_some_getLast h]
  exact this
theorem comp_eq {row : List Nat} (h : row ≠ []) (hl : last0 row < ws.length) : comp ws w row = (ext ws w row).flatMap (comp ws w) ++ if fin ws w row then [row] else [] := by
  unfold comp
  rw [S_step ws w hl]
  unfold nds
  rw [show ws.length - last0 row = (ws.length - (last0 row + 1)) + 1 by omega, List.range'_concat, List.filter_append, List.flatMap_append, List.map_append]
  congr 1
  · unfold ext
    rw [List.flatMap_map, List.map_flatMap]
    rw [List.flatMap_def, List.flatMap_def]
    congr 1
    apply List.map_congr_left
    intro e he
    rw [last0_snoc, List.dropLast_concat, List.map_map]
    apply List.map_congr_left
    intro s _
    show row.dropLast ++ (last0 row :: s) = row ++ s
    have := snoc_last h
    conv => rhs; rw [← this]
    simp
  · rw [show last0 row + 1 + 1 * (ws.length - (last0 row + 1)) = ws.length by omega]
    unfold fin
    cases q : fit ws w (last0 row) ws.length with
    | false => simp [q]
    | true =>
      simp [q]
      rw [S_top]
      simp
      exact snoc_last h
theorem comp_perm : ∀ (rows : List (List Nat)), (∀ r ∈ rows, r ≠ [] ∧ last0 r < ws.length) → (rows.flatMap (comp ws w)).Perm ((rows.flatMap (ext ws w)).flatMap (comp ws w) ++ rows.filter (fin ws w))
  | [], h => by simp
  | r :: rows, h => by
    have ih := comp_perm rows fun x hx => h x (by simp [hx])
    obtain ⟨h1, h2⟩ := h r (by simp)
    rw [List.flatMap_cons, List.flatMap_cons, List.flatMap_append, comp_eq ws w h1 h2]
    have : (r :: rows).filter (fin ws w) = (if fin ws w r then [r] else []) ++ rows.filter (fin ws w) := by
      cases q : fin ws w r <;> simp [q]
    rw [this]
    generalize (if fin ws w r then [r] else []) = A
    generalize (ext ws w r).flatMap (comp ws w) = B
    generalize (rows.flatMap (ext ws w)).flatMap (comp ws w) = C at ih ⊢
    generalize rows.filter (fin ws w) = D at ih ⊢
    calc (B ++ A ++ rows.flatMap (comp ws w)).Perm (B ++ A ++ (C ++ D)) := List.Perm.append_left _ ih
      _ |>.Perm (B ++ C ++ (A ++ D)) := by
        rw [List.append_assoc, List.append_assoc]
        apply List.Perm.append_left
        rw [← List.append_assoc, ← List.append_assoc]
        exact List.Perm.append_right _ List.perm_append_comm
def lvl (p : List (List Nat) × List (List Nat)) : List (List Nat) × List (List Nat) := (p.1 ++ p.2.filter (fin ws w), p.2.flatMap (ext ws w))
def lvls : Nat → List (List Nat) × List (List Nat)
  | 0 => ([], [[0]])
  | t + 1 => lvl ws w (lvls t)
/-- the weight of rows: more than they can ever bring -/
def wt (rows : List (List Nat)) : Nat := (rows.map fun r => 2 ^ (ws.length - last0 r)).sum
theorem pow_sum : ∀ (k a n : Nat), a + k = n → ((List.range' a k).map fun e => 2 ^ (n - e)).sum + 2 = 2 ^ (k + 1)
  | 0, a, n, h => by simp
  | k + 1, a, n, h => by
    have := pow_sum k (a + 1) n (by omega)
    rw [List.range'_succ, List.map_cons, List.sum_cons, show n - a = k + 1 by omega, Nat.pow_succ 2 (k + 1)]
    omega
theorem sum_filter_le {α : Type} (f : α → Nat) (p : α → Bool) : ∀ l : List α, ((l.filter p).map f).sum ≤ (l.map f).sum
  | [] => by simp
  | x :: l => by
    have := sum_filter_le f p l
    cases q : p x <;> simp [q] <;> omega
theorem wt_ext {row : List Nat} (hl : last0 row < ws.length) : wt ws (ext ws w row) + 1 ≤ 2 ^ (ws.length - last0 row) := by
  unfold wt ext
  rw [List.map_map]
  have e1 : (fun r => 2 ^ (ws.length - last0 r)) ∘ (fun e => row ++ [e]) = fun e => 2 ^ (ws.length - e) := by
    funext e; simp [last0_snoc]
  rw [e1]
  have h1 := sum_filter_le (fun e => 2 ^ (ws.length - e)) (fit ws w (last0 row)) (List.range' (last0 row + 1) (ws.length - (last0 row + 1)))
  have h2 := pow_sum (ws.length - (last0 row + 1)) (last0 row + 1) ws.length (by omega)
  rw [show ws.length - (last0 row + 1) + 1 = ws.length - last0 row by omega] at h2
  omega
theorem wt_flat : ∀ (rows : List (List Nat)), (∀ r ∈ rows, r ≠ [] ∧ last0 r < ws.length) → wt ws (rows.flatMap (ext ws w)) + rows.length ≤ wt ws rows
  | [], h => by simp [wt]
  | r :: rows, h => by
    have ih := wt_flat rows fun x hx => h x (by simp [hx])
    have h1 := wt_ext ws w (h r (by simp)).2
    have e1 : wt ws (r :: rows) = 2 ^ (ws.length - last0 r) + wt ws rows := by simp [wt]
    have e2 : wt ws ((r :: rows).flatMap (ext ws w)) = wt ws (ext ws w r) + wt ws (rows.flatMap (ext ws w)) := by simp [wt]
    rw [e1, e2, List.length_cons]; omega
theorem wt_len (rows : List (List Nat)) : rows.length ≤ wt ws rows := by
  induction rows with
  | nil => simp
  | cons r rows ih =>
    have e1 : wt ws (r :: rows) = 2 ^ (ws.length - last0 r) + wt ws rows := by simp [wt]
    have := Nat.one_le_two_pow (n := ws.length - last0 r)
    rw [e1, List.length_cons]; omega
theorem lvls_inv (h0 : 1 ≤ ws.length) : ∀ t, (∀ r ∈ (lvls ws w t).2, r ≠ [] ∧ last0 r < ws.length ∧ t ≤ last0 r) ∧ ((lvls ws w t).1 ++ (lvls ws w t).2.flatMap (comp ws w)).Perm (S ws w 0) ∧ (lvls ws w t).1.length + wt ws (lvls ws w t).2 ≤ 2 ^ ws.length ∧ ∀ r ∈ (lvls ws w t).1, r ≠ []
  | 0 => by
    refine ⟨fun r hr => ?_, ?_, ?_, fun r hr => by cases hr⟩
    · obtain rfl : r = [0] := by simpa [lvls] using hr
      exact ⟨by simp, h0, Nat.zero_le _⟩
    · simp [lvls, comp, last0]
    · simp [lvls, wt, last0]
  | t + 1 => by
    obtain ⟨h1, h2, h3, h4⟩ := lvls_inv h0 t
    have hp : ∀ r ∈ (lvls ws w t).2, r ≠ [] ∧ last0 r < ws.length := fun r hr => ⟨(h1 r hr).1, (h1 r hr).2.1⟩
    refine ⟨fun r hr => ?_, ?_, ?_, fun r hr => ?_⟩
    · obtain ⟨q, hq, hr⟩ := List.mem_flatMap.mp (show r ∈ (lvls ws w t).2.flatMap (ext ws w) from hr)
      obtain ⟨e, he, rfl⟩ := List.mem_map.mp hr
      have := List.mem_range'_1.mp (List.mem_filter.mp he).1
      have hq := h1 q hq
      rw [last0_snoc]
      exact ⟨by simp, by omega, by omega⟩
    · have := comp_perm ws w _ hp
      show ((lvls ws w t).1 ++ (lvls ws w t).2.filter (fin ws w) ++ ((lvls ws w t).2.flatMap (ext ws w)).flatMap (comp ws w)).Perm _
      refine List.Perm.trans ?_ h2
      rw [List.append_assoc]
      apply List.Perm.append_left
      exact (List.perm_append_comm.trans this.symm)
    · have a := wt_flat ws w _ hp
      show ((lvls ws w t).1 ++ (lvls ws w t).2.filter (fin ws w)).length + wt ws ((lvls ws w t).2.flatMap (ext ws w)) ≤ _
      rw [List.length_append]
      have := List.length_filter_le (fin ws w) (lvls ws w t).2
      omega
    · rcases List.mem_append.mp (show r ∈ (lvls ws w t).1 ++ (lvls ws w t).2.filter (fin ws w) from hr) with hr | hr
      · exact h4 r hr
      · exact (h1 r (List.mem_filter.mp hr).1).1
theorem lvls_end (h0 : 1 ≤ ws.length) : (lvls ws w ws.length).1.Perm (S ws w 0) := by
  obtain ⟨h1, h2, _⟩ := lvls_inv ws w h0 ws.length
  have : (lvls ws w ws.length).2 = [] := by
    cases q : (lvls ws w ws.length).2 with
    | nil => rfl
    | cons r rs =>
      have := h1 r (by rw [q]; simp)
      omega
  rw [this] at h2
  simpa using h2
/-- every setting, in order -/
def every : List (List Nat) := (lvls ws w ws.length).1.mergeSort fun a b => !OV.lt b a
theorem every_perm (h0 : 1 ≤ ws.length) : (every ws w).Perm (S ws w 0) := (List.mergeSort_perm _ _).trans (lvls_end ws w h0)
end
theorem nat_last {row : List Nat} (h : row ≠ []) : atI (row.map (enc : Nat → Val)) (-1) = some (.int (last0 row : Int)) := by
  apply atI_last'
  rw [List.getLast?_map, last0, List.getLast?_eq_some_getLast h]; rfl
theorem range_2i (a b : Nat) (h : a ≤ 10000000) (h2 : b ≤ 10000000) : rangeV [.int ((a : Int) + 1), .int (b : Int)] = some ((List.range' (a + 1) (b - (a + 1))).map enc) := range_2 (a + 1) b (by omega) (by omega)
theorem law_settings_ok {ws : List Int} (h : Wd ws) (w : Int) : F__law_settings [.tup (ws.map enc), .int w] = .ok (.lst ((every ws w).map enc), true) := by
  have hf := h.few
  have hr := range_1 ws.length (by omega)
  have h2n : 2 ^ ws.length ≤ 16384 := Nat.le_trans (Nat.pow_le_pow_right (by decide) hf) (by decide)
  -- a row
  have turn : ∀ (rows found longer : List (List Nat)) (rs t4 t6 : PV.Slot), (∀ r ∈ rows, r ≠ [] ∧ last0 r < ws.length ∧ r.length ≤ 14) → found.length + rows.length ≤ 100000 → longer.length + (rows.flatMap (ext ws w)).length ≤ 100000 →
      ∃ t6', forLoop (gN 6) (sSeq (sIf (dTB (dBin oLe (dCB F__law_long [(dVar 0), (dIxS 6 (dUn oNeg (dC (.int 1)))), (dCBS oLen 0)]) (dVar 1))) (sExpr (dApp 2 (dVar 6))) sNil)
    (sExpr (dExt 5 (dLc [7] (iRng [(dBin oAdd (dIxS 6 (dUn oNeg (dC (.int 1)))) (dC (.int 1))), (dCBS oLen 0)]) (gN 7) (dTB (dBin oLe (dCB F__law_long [(dVar 0), (dIxS 6 (dUn oNeg (dC (.int 1)))), (dVar 7)]) (dVar 1))) (dBin oAdd (dVar 6) (dTup [(dVar 7)])))))) (rows.map enc)
      [.frz (.tup (ws.map enc)), .frz (.int w), .own (.lst (found.map enc)), rs, t4, .own (.lst (longer.map enc)), t6, .emp] = .ok (.nx [.frz (.tup (ws.map enc)), .frz (.int w), .own (.lst ((found ++ rows.filter (fin ws w)).map enc)), rs, t4, .own (.lst ((longer ++ rows.flatMap (ext ws w)).map enc)), t6', .emp]) := fun rows => by
    induction rows with
    | nil => intro found longer rs t4 t6 _ _ _; exact ⟨t6, by simp [forLoop]⟩
    | cons r rows ih =>
      intro found longer rs t4 t6 hrow hl1 hl2
      obtain ⟨r1, r2, r3⟩ := hrow r (by simp)
      have hix := oIx_t _ _ (nat_last r1)
      have hlong := law_long_ok ws (last0 r) ws.length
      rw [List.length_cons] at hl1
      rw [List.flatMap_cons, List.length_append] at hl2
      have hcat : ∀ e : Nat, oAdd (.tup (r.map enc)) (.tup [.int (e : Int)]) = .ok (.tup ((r ++ [e]).map enc), false) := fun e => by
        rw [oAdd_tt _ _ (by rw [List.length_map, show sizeLine = 16777216 from rfl]; simp; omega)]; simp
      have hlc : ∀ found : List Val, dLc [7] (iRng [(dBin oAdd (dIxS 6 (dUn oNeg (dC (.int 1)))) (dC (.int 1))), (dCBS oLen 0)]) (gN 7) (dTB (dBin oLe (dCB F__law_long [(dVar 0), (dIxS 6 (dUn oNeg (dC (.int 1)))), (dVar 7)]) (dVar 1))) (dBin oAdd (dVar 6) (dTup [(dVar 7)]))
          [.frz (.tup (ws.map enc)), .frz (.int w), .own (.lst found), rs, t4, .own (.lst (longer.map enc)), .frz (.tup (r.map enc)), .emp] = .ok (.lst ((ext ws w r).map enc), true, [.frz (.tup (ws.map enc)), .frz (.int w), .own (.lst found), rs, t4, .own (.lst (longer.map enc)), .frz (.tup (r.map enc)), .emp]) := fun found => by
        rw [lc_filter (env1 := [.frz (.tup (ws.map enc)), .frz (.int w), .own (.lst found), rs, t4, .own (.lst (longer.map enc)), .frz (.tup (r.map enc)), .emp])
          (List.range' (last0 r + 1) (ws.length - (last0 r + 1))) enc (fun e => enc (r ++ [e])) (fit ws w (last0 r)) (by simp [hix, range_2i (last0 r) ws.length (by omega) (by omega)]) (by simp) (by rw [List.length_range', show sizeLine = 16777216 from rfl]; omega) (fun e he => ?_) (by simp)]
        · unfold ext; rw [List.map_map]; rfl
        · have hlg := law_long_ok ws (last0 r) e
          simp [hix, hlg]
          have hq := long_fit ws w (last0 r) e
          cases q : fit ws w (last0 r) e with
          | true =>
            rw [q] at hq
            have := of_decide_eq_true hq
            simp [this, hcat]
          | false =>
            rw [q] at hq
            have := of_decide_eq_false hq
            simp [this]
      have hq := long_fit ws w (last0 r) ws.length
      have s1 : ∀ n : Nat, n ≤ 100000 → n < sizeLine := fun n hn => by rw [show sizeLine = 16777216 from rfl]; omega
      have hcat2 : longer.length + (ext ws w r).length ≤ sizeLine := Nat.le_of_lt (s1 _ (by omega))
      rw [List.map_cons]
      unfold forLoop
      cases q : fin ws w r with
      | true =>
        have hq' : long ws (last0 r) ws.length ≤ w := of_decide_eq_true (hq.trans q)
        obtain ⟨t6', hih⟩ := ih (found ++ [r]) (longer ++ ext ws w r) rs t4 (.frz (.tup (r.map enc))) (fun x hx => hrow x (by simp [hx])) (by rw [List.length_append]; simp; omega) (by rw [List.length_append]; omega)
        have hlc' := hlc (found.map enc ++ [.tup (r.map enc)])
        simp at hih
        simp [hix, hlong, hq', s1 _ (show found.length ≤ 100000 by omega), hlc', hcat2, hih, q]
      | false =>
        have hq' : ¬ long ws (last0 r) ws.length ≤ w := of_decide_eq_false (hq.trans q)
        obtain ⟨t6', hih⟩ := ih found (longer ++ ext ws w r) rs t4 (.frz (.tup (r.map enc))) (fun x hx => hrow x (by simp [hx])) (by omega) (by rw [List.length_append]; omega)
        have hlc' := hlc (found.map enc)
        simp at hih
        simp [hix, hlong, hq', hlc', hcat2, hih, q]
  have key := for_inv (g := gN 4) (b := (sSeq (sOwn (dLst []) 5)
    (sSeq (sFor (iVal (dVar 3)) (gN 6) (sSeq (sIf (dTB (dBin oLe (dCB F__law_long [(dVar 0), (dIxS 6 (dUn oNeg (dC (.int 1)))), (dCBS oLen 0)]) (dVar 1))) (sExpr (dApp 2 (dVar 6))) sNil)
    (sExpr (dExt 5 (dLc [7] (iRng [(dBin oAdd (dIxS 6 (dUn oNeg (dC (.int 1)))) (dC (.int 1))), (dCBS oLen 0)]) (gN 7) (dTB (dBin oLe (dCB F__law_long [(dVar 0), (dIxS 6 (dUn oNeg (dC (.int 1)))), (dVar 7)]) (dVar 1))) (dBin oAdd (dVar 6) (dTup [(dVar 7)])))))))
    (sOwn (dVar 5) 3)))) (Q := fun r => ∃ s3 s4 s5 s6, r = .nx [.frz (.tup (ws.map enc)), .frz (.int w), .own (.lst ((lvls ws w ws.length).1.map enc)), s3, s4, s5, s6, .emp])
    ((List.range ws.length).map enc) (fun t env => t ≤ ws.length ∧ ∃ s3 s4 s5 s6, (s3 = PV.Slot.own (.lst ((lvls ws w t).2.map enc)) ∨ s3 = PV.Slot.frz (.lst ((lvls ws w t).2.map enc))) ∧ env = [.frz (.tup (ws.map enc)), .frz (.int w), .own (.lst ((lvls ws w t).1.map enc)), s3, s4, s5, s6, .emp])
    [.frz (.tup (ws.map enc)), .frz (.int w), .own (.lst []), .own (.lst [.tup [.int 0]]), .emp, .emp, .emp, .emp] ⟨by omega, _, _, _, _, .inl rfl, rfl⟩ ?_ ?_
  · obtain ⟨r, k1, s3, s4, s5, s6, k2⟩ := key.ex
    subst k2
    simp [F__law_settings, runF, d__law_settings, hr]
    rw [k1]
    have hs := oSorted_t (lvls ws w ws.length).1 (by decide) (lvls_inv ws w h.one ws.length).2.2.2
    simp [hs]
    rfl
  · rintro t ht env ⟨_, s3, s4, s5, s6, h3, rfl⟩
    have ht' : t < ws.length := by simpa using ht
    obtain ⟨i1, i2, i3, i4⟩ := lvls_inv ws w h.one t
    have hw := wt_len ws (lvls ws w t).2
    have hfl := wt_flat ws w (lvls ws w t).2 fun r hr => ⟨(i1 r hr).1, (i1 r hr).2.1⟩
    have hw2 := wt_len ws ((lvls ws w t).2.flatMap (ext ws w))
    have hlen : ∀ r ∈ (lvls ws w t).2, r.length ≤ 14 := fun r hr => by
      have : ∀ t, ∀ r ∈ (lvls ws w t).2, r.length = t + 1 := fun t => by
        induction t with
        | zero => intro r hr; obtain rfl : r = [0] := by simpa [lvls] using hr
                  rfl
        | succ t ih =>
          intro r hr
          obtain ⟨q, hq, hr⟩ := List.mem_flatMap.mp (show r ∈ (lvls ws w t).2.flatMap (ext ws w) from hr)
          obtain ⟨e, he, rfl⟩ := List.mem_map.mp hr
          rw [List.length_append, ih q hq]; rfl
      have := this t r hr
      omega
    obtain ⟨t6', hk⟩ := turn (lvls ws w t).2 (lvls ws w t).1 [] (.frz (.lst ((lvls ws w t).2.map enc))) (.frz (.int (t : Int))) s6 (fun r hr => ⟨(i1 r hr).1, (i1 r hr).2.1, hlen r hr⟩) (by omega) (by rw [List.length_nil]; omega)
    simp only [List.map_nil, List.nil_append] at hk
    rcases h3 with rfl | rfl
    · simp
      rw [hk]
      simp
      exact ⟨ht', by rw [← List.map_append]; rfl, rfl⟩
    · simp
      rw [hk]
      simp
      exact ⟨ht', by rw [← List.map_append]; rfl, rfl⟩
  · rintro env ⟨_, s3, s4, s5, s6, h3, rfl⟩
    exact ⟨s3, s4, s5, s6, by simp⟩
theorem mem_every {ws : List Int} (h : Wd ws) (w : Int) (r : List Nat) : r ∈ every ws w ↔ r ∈ S ws w 0 := (every_perm ws w h.one).mem_iff
/-! ### what the law reckons over a setting -/
/-- its lines: where each begins, where it ends -/
def lns (n : Nat) : List Nat → List (Nat × Nat)
  | [] => []
  | b :: r => (b, r.headD n) :: lns n r
theorem lns_zip (n : Nat) : ∀ r : List Nat, zipD (r.map enc) (cut (r.map enc) (some 1) none ++ [enc n]) = (lns n r).map fun p => .tup [enc p.1, enc p.2]
  | [] => by rw [cut_1]; rfl
  | [b] => by rw [cut_1]; rfl
  | b :: c :: r => by
    have ih := lns_zip n (c :: r)
    rw [cut_1] at ih ⊢
    unfold zipD at ih ⊢
    rw [show lns n (b :: c :: r) = (b, c) :: lns n (c :: r) from rfl]
    simp only [List.map_cons, List.tail_cons, List.cons_append, List.zipWith_cons_cons] at ih ⊢
    rw [ih]
theorem rsum_lns (ws : List Int) (c : Nat → Nat → Int) : ∀ r : List Nat, rsum ws c r = ((lns ws.length r).map fun p => c p.1 p.2).sum
  | [] => rfl
  | b :: r => by rw [rsum, lns, List.map_cons, List.sum_cons, rsum_lns ws c r]
theorem lns_len (n : Nat) : ∀ r : List Nat, (lns n r).length = r.length
  | [] => rfl
  | b :: r => by rw [lns, List.length_cons, List.length_cons, lns_len n r]
/-- begins and ends of the settings from b on -/
theorem S_lns {ws : List Int} (w : Int) : ∀ b, b ≤ ws.length → ∀ r ∈ S ws w b, ∀ p ∈ lns ws.length r, p.1 < p.2 ∧ p.2 ≤ ws.length ∧ fit ws w p.1 p.2 = true := down ws (fun r hr p hp => by
  rw [S_top] at hr
  obtain rfl : r = [] := by simpa using hr
  cases hp) fun b hb ih r hr p hp => by
  obtain ⟨e, s, h1, h2, h3, h4, rfl⟩ := (mem_S ws w hb).mp hr
  rw [lns, S_headD ws w h2 h4] at hp
  rcases List.mem_cons.mp hp with rfl | hp
  · exact ⟨h1, h2, h3⟩
  · exact ih e h1 h2 s h4 p hp
theorem cnt_sum (p : Nat × Nat → Bool) : ∀ l : List (Nat × Nat), ((l.filter p).length : Int) = (l.map fun x => if p x then (1 : Int) else 0).sum
  | [] => rfl
  | x :: l => by
    rw [List.map_cons, List.sum_cons, ← cnt_sum p l]
    cases q : p x <;> simp [q] <;> omega
/-- the law's price: all lines but the last -/
theorem lns_price (n : Nat) : ∀ r : List Nat, zipD (r.map enc) (cut (r.map enc) (some 1) none) = ((lns n r).dropLast).map fun p => .tup [enc p.1, enc p.2]
  | [] => by rw [cut_1]; rfl
  | [b] => by rw [cut_1]; rfl
  | b :: c :: r => by
    have ih := lns_price n (c :: r)
    rw [cut_1] at ih ⊢
    unfold zipD at ih ⊢
    rw [show (lns n (b :: c :: r)).dropLast = (b, c) :: (lns n (c :: r)).dropLast from by simp [lns]]
    simp only [List.map_cons, List.tail_cons, List.zipWith_cons_cons] at ih ⊢
    rw [ih]
theorem lns_last (n : Nat) : ∀ r : List Nat, ∀ b, lns n (r ++ [b]) = (lns n (r ++ [b])).dropLast ++ [(b, n)]
  | [], b => rfl
  | a :: r, b => by
    have := lns_last n r b
    rw [List.cons_append, lns]
    cases q : lns n (r ++ [b]) with
    | nil => have h := lns_len n (r ++ [b]); rw [q] at h; simp at h
    | cons x l =>
      rw [q] at this
      rw [List.dropLast_cons₂, List.cons_append]
      congr 1
theorem price_sum {ws : List Int} {w : Int} {r : List Nat} (hr : r ∈ S ws w 0) (h0 : 1 ≤ ws.length) : rsum ws (lp ws w) r = (((lns ws.length r).dropLast).map fun p => room ws w p.1 p.2 * room ws w p.1 p.2).sum := by
  have hne : r ≠ [] := by
    rcases S_head ws w 0 (Nat.zero_le _) r hr with ⟨h, _⟩ | ⟨_, s, rfl⟩
    · omega
    · simp
  have hs := snoc_last hne
  have hl := lns_last ws.length r.dropLast (last0 r)
  rw [hs] at hl
  -- the lines before the last end early
  have hlt : ∀ (r : List Nat) (b : Nat), b ≤ ws.length → r ∈ S ws w b → ∀ p ∈ (lns ws.length r).dropLast, p.2 < ws.length := fun r => by
    induction r with
    | nil => intro b _ _ p hp; cases hp
    | cons a r ih =>
      intro b hb hr p hp
      have hbl : b < ws.length := by
        rcases S_head ws w b hb _ hr with ⟨_, h⟩ | ⟨h, _⟩
        · cases h
        · exact h
      obtain ⟨e, s, h1, h2, h3, h4, h5⟩ := (mem_S ws w hbl).mp hr
      cases h5
      cases r with
      | nil => simp [lns] at hp
      | cons c r =>
        rw [show (lns ws.length (a :: c :: r)).dropLast = (a, c) :: (lns ws.length (c :: r)).dropLast from by simp [lns]] at hp
        rcases List.mem_cons.mp hp with rfl | hp
        · rcases S_head ws w e h2 _ h4 with ⟨_, h⟩ | ⟨h, s, hs⟩
          · cases h
          · cases hs; exact h
        · exact ih e h2 h4 p hp
  rw [rsum_lns]
  conv => lhs; rw [hl]
  rw [List.map_append, List.sum_append]
  have e1 : (List.map (fun p : Nat × Nat => lp ws w p.1 p.2) [(last0 r, ws.length)]).sum = 0 := by simp [lp]
  rw [e1, Int.add_zero]
  congr 1
  apply List.map_congr_left
  intro p hp
  have := hlt r 0 (Nat.zero_le _) hr p hp
  unfold lp
  rw [if_neg (by omega)]
theorem law_price_ok {ws : List Int} (h : Wd ws) {w : Int} (h1 : 1 ≤ w) (h2 : w ≤ 30) {r : List Nat} (hr : r ∈ S ws w 0) : F__law_price [.tup (ws.map enc), .int w, .tup (r.map enc)] = .ok (.int (rsum ws (lp ws w) r), false) := by
  have hf := h.few
  have hl := S_len w 0 (Nat.zero_le _) r hr
  have hz := lns_price ws.length r
  rw [price_sum hr h.one]
  have hp : ∀ p ∈ (lns ws.length r).dropLast, p.1 ≤ ws.length ∧ p.2 ≤ ws.length := fun p hp => by
    have := S_lns w 0 (Nat.zero_le _) r hr p (List.dropLast_subset _ hp)
    omega
  have hlen : (lns ws.length r).dropLast.length ≤ 14 := by rw [List.length_dropLast, lns_len]; omega
  generalize (lns ws.length r).dropLast = L at hz hp hlen
  have m1 := lc_map (own := [4, 5]) (it := (iOf zipVs [(dVar 2), (dSl (dVar 2) (pSome (dC (.int 1))) pNone)])) (g := (gT 2 (gsCons (gN 4) (gsCons (gN 5) gsNil)))) (t := dYes) (elt := (dBin oSub (dVar 1) (dCB F__law_long [(dVar 0), (dVar 4), (dVar 5)])))
    (env := [.frz (.tup (ws.map enc)), .frz (.int w), .frz (.tup (r.map enc)), .emp, .emp, .emp, .emp]) (env1 := [.frz (.tup (ws.map enc)), .frz (.int w), .frz (.tup (r.map enc)), .emp, .emp, .emp, .emp])
    L (fun p => .tup [enc p.1, enc p.2]) (fun p => .int (room ws w p.1 p.2)) (by
      rw [cut_map] at hz
      simp [zipVs, seqKV]
      rw [hz]; simp) (by simp) (by rw [show sizeLine = 16777216 from rfl]; omega) (fun p _ => by simp [law_long_ok, long_room]) (by simp)
  have m2 := lc_map (own := [6]) (it := (iVal (dVar 3))) (g := (gN 6)) (t := dYes) (elt := (dBin oMul (dVar 6) (dVar 6)))
    (env := [.frz (.tup (ws.map enc)), .frz (.int w), .frz (.tup (r.map enc)), .own (.lst (L.map fun p => .int (room ws w p.1 p.2))), .emp, .emp, .emp]) (env1 := [.frz (.tup (ws.map enc)), .frz (.int w), .frz (.tup (r.map enc)), .frz (.lst (L.map fun p => .int (room ws w p.1 p.2))), .emp, .emp, .emp])
    L (fun p => .int (room ws w p.1 p.2)) (fun p => .int (room ws w p.1 p.2 * room ws w p.1 p.2)) (by simp) (by simp) (by rw [show sizeLine = 16777216 from rfl]; omega) (fun p hp' => by
      have rb := room_bnd h h1 (show w ≤ 300 by omega) (hp p hp').2 (hp p hp').1
      simp [oMul_ii _ _ (mul_l (i := room ws w p.1 p.2) (j := room ws w p.1 p.2) (by omega))]) (by simp)
  simp [F__law_price, runF, d__law_price, m1, m2]
end Lf

namespace Lf
open PySem PySem.Spec PyProof.Rows L2 PV
open EV (enc)
/-! ### prices that are bound lie below every setting's -/
theorem bd_le {ws : List Int} {w : Int} {ps : List Int} (h : bd ws w ps = true) : ∀ b, b ≤ ws.length → ∀ r ∈ S ws w b, at0 ps b ≤ rsum ws (lp ws w) r := by
  unfold bd at h
  rw [Bool.and_eq_true] at h
  have h0 := of_decide_eq_true h.1
  have hA := h.2
  unfold bdA at hA
  rw [List.all_eq_true] at hA
  refine down ws (fun r hr => ?_) fun b hb ih r hr => ?_
  · rw [S_top] at hr
    obtain rfl : r = [] := by simpa using hr
    rw [h0]; exact Int.le_refl 0
  · obtain ⟨e, s, h1, h2, h3, h4, rfl⟩ := (mem_S ws w hb).mp hr
    rw [rsum_cons ws w h2 h4]
    have i1 := ih e h1 h2 s h4
    have := hA b (List.mem_range.mpr hb)
    unfold bdB at this
    rw [List.all_eq_true] at this
    have := this e ((mem_nds ws).mpr ⟨h1, fun _ => h2, by omega⟩)
    unfold bdE at this
    rw [h3, Bool.true_and] at this
    simp at this
    omega
theorem lp_bnd {ws : List Int} {w : Int} (hp : ∀ x ∈ ws, 1 ≤ x) (h2 : w ≤ 30) {b e : Nat} (h1 : b < e) (hf : fit ws w b e = true) : 0 ≤ lp ws w b e ∧ lp ws w b e ≤ 900 := by
  have q := of_decide_eq_true hf
  have p := seg_pos hp b e
  have hr : room ws w b e ≤ 30 := by unfold room; omega
  unfold lp
  split
  · omega
  · generalize room ws w b e = x at q hr
    have a1 : 0 ≤ x * x := Int.mul_nonneg q q
    have a2 : x * x ≤ 30 * 30 := Int.mul_le_mul hr hr q (by omega)
    omega
theorem rsum_bnd {ws : List Int} {w : Int} (hp : ∀ x ∈ ws, 1 ≤ x) (h2 : w ≤ 30) : ∀ b, b ≤ ws.length → ∀ r ∈ S ws w b, 0 ≤ rsum ws (lp ws w) r ∧ rsum ws (lp ws w) r ≤ 900 * (ws.length - b : Nat) := by
  refine down ws (fun r hr => ?_) fun b hb ih r hr => ?_
  · rw [S_top] at hr
    obtain rfl : r = [] := by simpa using hr
    simp [rsum]
  · obtain ⟨e, s, h1, h3, h4, h5, rfl⟩ := (mem_S ws w hb).mp hr
    rw [rsum_cons ws w h3 h5]
    have := ih e h1 h3 s h5
    have := lp_bnd hp h2 h1 h4
    omega
/-- the prices told -/
def toldO (ws : List Int) (w : Int) : List (Option Int) := (List.range (ws.length + 1)).map fun b => (ls ws w b).map (·.1)
theorem toldO_bnd {ws : List Int} (h : Wd ws) {w : Int} (h2 : w ≤ 30) : ∀ p, some p ∈ toldO ws w → 0 ≤ p ∧ p ≤ 12600 := fun p hp => by
  obtain ⟨b, hb, e⟩ := List.mem_map.mp hp
  have hb := List.mem_range.mp hb
  cases q : ls ws w b with
  | none => rw [q] at e; cases e
  | some m =>
    rw [q] at e
    rw [ls_S ws w b (by omega)] at q
    obtain ⟨r, hr, hm⟩ := List.mem_map.mp (minL_some.mp q).1
    have e' := Option.some.inj e
    have := rsum_bnd (w := w) (fun x hx => (h.all x hx).1) h2 b (by omega) r hr
    have hf := h.few
    rw [← e', ← hm]
    show 0 ≤ rsum ws (lp ws w) r ∧ rsum ws (lp ws w) r ≤ 12600
    omega
/-- where all is told, it is bound -/
theorem told_bd {ws : List Int} {w : Int} {ps : List Int} (e : toldO ws w = ps.map some) : bd ws w ps = true := by
  have hl : ps.length = ws.length + 1 := by
    have := congrArg List.length e
    simpa [toldO] using this.symm
  have hat : ∀ b, b ≤ ws.length → ∃ r, ls ws w b = some (at0 ps b, r) := fun b hb => by
    have := congrArg (fun l : List (Option Int) => l[b]?) e
    simp only [toldO, List.getElem?_map] at this
    rw [List.getElem?_range (by omega), List.getElem?_eq_getElem (by omega)] at this
    simp only [Option.map_some] at this
    cases q : ls ws w b with
    | none => rw [q] at this; cases this
    | some m =>
      rw [q] at this
      have h1 : m.1 = ps[b] := by simpa using this
      refine ⟨m.2, ?_⟩
      rw [at0, List.getD_eq_getElem?_getD, List.getElem?_eq_getElem (by omega)]
      show some m = some (ps[b], m.2)
      rw [← h1]
  unfold bd
  rw [Bool.and_eq_true]
  constructor
  · obtain ⟨r, hr⟩ := hat ws.length (Nat.le_refl _)
    rw [ls_top] at hr
    have := congrArg Prod.fst (Option.some.inj hr)
    exact decide_eq_true this.symm
  · unfold bdA
    rw [List.all_eq_true]
    intro b hb
    have hb := List.mem_range.mp hb
    unfold bdB
    rw [List.all_eq_true]
    intro x hx
    have hx := (mem_nds ws).mp hx
    have xn := hx.2.1 hb
    unfold bdE
    cases q : fit ws w b x with
    | false => rfl
    | true =>
      obtain ⟨r, hr⟩ := hat b (by omega)
      obtain ⟨s, hs⟩ := hat x xn
      rw [ls_S ws w x xn] at hs
      obtain ⟨s', hs', em⟩ := List.mem_map.mp (minL_some.mp hs).1
      rw [ls_S ws w b (by omega)] at hr
      have := (minL_some.mp hr).2 (rsum ws (lp ws w) (b :: s'), b :: s') (List.mem_map.mpr ⟨_, (mem_S ws w hb).mpr ⟨x, s', hx.1, xn, q, hs', rfl⟩, rfl⟩)
      rw [rsum_cons ws w xn hs'] at this
      have e1 : rsum ws (lp ws w) s' = at0 ps x := congrArg Prod.fst em
      rw [e1] at this
      have this : (if lp ws w b x + at0 ps x = at0 ps b then _ else decide (lp ws w b x + at0 ps x < at0 ps b)) = false := this
      rw [Bool.true_and]
      by_cases c : lp ws w b x + at0 ps x < at0 ps b
      · rw [if_neg (by omega), decide_eq_true c] at this; cases this
      · rw [decide_eq_false c]; rfl
/-! ### the full lines -/
def fullsOf (ws : List Int) (w : Int) : List Int := (every ws w).map (rsum ws (isF ws w))
theorem fl_every {ws : List Int} (h : Wd ws) (w : Int) : fl ws w 0 = maxL (fullsOf ws w) := by
  rw [fl_S ws w 0 (Nat.zero_le _)]
  refine maxL_congr fun a => ?_
  unfold fullsOf
  rw [List.mem_map, List.mem_map]
  exact ⟨fun ⟨r, h1, h2⟩ => ⟨r, (mem_every h w r).mpr h1, h2⟩, fun ⟨r, h1, h2⟩ => ⟨r, (mem_every h w r).mp h1, h2⟩⟩
theorem every_len {ws : List Int} (h : Wd ws) (w : Int) : (every ws w).length ≤ 16384 := by
  have := (every_perm ws w h.one).length_eq
  have q := (lvls_end ws w h.one).length_eq
  have := (lvls_inv ws w h.one ws.length).2.2.1
  have h2n : 2 ^ ws.length ≤ 16384 := Nat.le_trans (Nat.pow_le_pow_right (by decide) h.few) (by decide)
  omega
theorem full_count {ws : List Int} (w : Int) (r : List Nat) : (((lns ws.length r).filter fun p => decide (long ws p.1 p.2 = w)).length : Int) = rsum ws (isF ws w) r := by
  rw [cnt_sum, rsum_lns]
  congr 1
  apply List.map_congr_left
  intro p _
  unfold isF
  have := long_room ws w p.1 p.2
  by_cases c : long ws p.1 p.2 = w
  · rw [decide_eq_true c, if_pos rfl, if_pos (by omega)]
  · rw [decide_eq_false c, if_neg (by simp), if_neg (by omega)]
/-! ### the fewest lines -/
theorem fewest {ws : List Int} (h : Wd ws) {m v : Int} (hm : maxL ws = some m) (hv : m ≤ v) : minL ((99 : Int) :: (every ws v).map fun r => (r.length : Int)) = some ((fullS ws v).length : Int) := by
  obtain ⟨m', e, m1, m2, m3⟩ := maxW h
  rw [hm] at e; cases e
  have hw : ∀ x ∈ ws, x ≤ v := fun x hx => by have := m3 x hx; omega
  have hp : ∀ x ∈ ws, 1 ≤ x := fun x hx => (h.all x hx).1
  have hmem := fullS_mem h.one hw
  rw [minL_some]
  constructor
  · exact List.mem_cons_of_mem _ (List.mem_map.mpr ⟨_, (mem_every h v _).mpr hmem, rfl⟩)
  · intro y hy
    apply decide_eq_false
    rcases List.mem_cons.mp hy with rfl | hy
    · have := S_len v 0 (Nat.zero_le _) _ hmem
      have := h.few
      omega
    · obtain ⟨r, hr, rfl⟩ := List.mem_map.mp hy
      have := fullS_least h.one hp ((mem_every h v r).mp hr)
      omega
/-! ### the law's turn -/
theorem seq_is {d1 d2 : SD} {env : EnvD} {Q : SR → Prop} (h : (d1 env).Is fun r => ∃ env', r = .nx env' ∧ (d2 env').Is Q) : (sSeq d1 d2 env).Is Q := by
  show ((d1 env) >>= _).Is Q
  refine h.bind fun r ⟨env', e, q⟩ => ?_
  subst e
  exact q
theorem seq_of {d1 d2 : SD} {env env1 : EnvD} {Q : SR → Prop} (h : d1 env = .ok (.nx env1)) (q : (d2 env1).Is Q) : (sSeq d1 d2 env).Is Q := seq_is (Res.Is.of h ⟨env1, rfl, q⟩)
abbrev E19 (is : List Int) (h : Val) (s2 s3 s4 s5 s6 s7 s8 s9 s10 s11 s12 s13 s14 : PV.Slot) : EnvD := [.frz (.scr is), .own h, s2, s3, s4, s5, s6, s7, s8, s9, s10, s11, s12, s13, s14, .emp, .emp, .emp, .emp]
def lawA : SD := (sAsg (dTup [(dCallH F__law_words 1 [(dC (.int 6))]), (dBin oAdd (dC (.int 1)) (dCallH F__law_draw 1 [(dC (.int 24))]))]) (gT 2 (gsCons (gN 9) (gsCons (gN 10) gsNil))))
def lawB : SD := (sPar 11 12 [(dCB F__law_settings [(dVar 9), (dVar 10)]), (dCB (on1 oList) [(dCB F_prices_of [(dVar 9), (dVar 10)])])])
def lawC : SD := (sIf (dTB (dBin oNe (dCB F_setting_count [(dVar 9), (dVar 10)]) (dCBS oLen 11))) (sRet (dC (.bl false))) sNil)
def lawD : SD := (sOwn (dLc [15] (iVal (dVar 11)) (gN 15) dYes (dCB (on1 oLen) [(dLc [17, 18] (iOf zipVs [(dVar 15), (dBin oAdd (dSl (dVar 15) (pSome (dC (.int 1))) pNone) (dTup [(dCBS oLen 9)]))]) (gT 2 (gsCons (gN 17) (gsCons (gN 18) gsNil))) (dTB (dBin oEq (dCB F__law_long [(dVar 9), (dVar 17), (dVar 18)]) (dVar 10))) (dC (.int 1)))])) 3)
def lawE : SD := (sIf (dTB (dBin oNe (dCB F_full_lines [(dVar 9), (dVar 10)]) (dIf (dTB (dBin oNe (dVar 3) (dLst []))) (dCBS (oBest maxV) 3) (dC .non)))) (sRet (dC (.bl false))) sNil)
def lawF : SD := (sOwn (dLc [16] (iVal (dVar 12)) (gN 16) dYes (dIf (dTB (dBin oIsNot (dVar 16) (dC .non))) (dCB (on2 oMax2) [(dC (.int 0)), (dBin oSub (dVar 16) (dCallH F__law_draw 1 [(dC (.int 3))]))]) (dCallH F__law_draw 1 [(dC (.int 9))]))) 4)
def lawG : SD := (sOwn (dBin oAdd (dLst [(dCB (on1 oTuple) [(dBin oMul (dLst [(dC (.int 0))]) (dCBS oLen 12))]), (dCBS oTuple 4), (dCB (on1 oTuple) [(dLc [16] (iVal (dVar 4)) (gN 16) dYes (dBin oAdd (dVar 16) (dCallH F__law_draw 1 [(dC (.int 2))])))])]) (dIf (dTB (dRS oNotIn (dC .non) 12)) (dLst [(dCBS oTuple 12)]) (dLst []))) 5)
def lawH1 : SD := (sSeq (sOwn (dCB F__law_bound [(dVar 9), (dVar 10), (dVar 6)]) 13)
    (sSeq (sOwn (dCB (on1 (oBest minV)) [(dBin oAdd (dLc [15] (iVal (dVar 11)) (gN 15) dYes (dCB F__law_price [(dVar 9), (dVar 10), (dVar 15)])) (dLst [(dBin oPow (dC (.int 10)) (dC (.int 9)))]))]) 14)
    (sSeq (sIf (dTB (dBin oNe (dCB F_are_bound [(dVar 9), (dVar 10), (dVar 6)]) (dVar 13))) (sRet (dC (.bl false))) sNil)
    (sIf (dAndT (dTruS 13) (dTB (dBin oGt (dIxS 6 (dC (.int 0))) (dVar 14)))) (sRet (dC (.bl false))) sNil))))
def lawH : SD := (sFor (iVal (dVar 5)) (gN 6) lawH1)
def lawI : SD := (sIf (dAndT (dTB (dRS oNotIn (dC .non) 12)) (dTB (dBin oIsNot (dCB F_are_bound [(dVar 9), (dVar 10), (dCBS oTuple 12)]) (dC (.bl true))))) (sRet (dC (.bl false))) sNil)
def lawJ : SD := (sOwn (dBin oAdd (dC (.int 1)) (dCallH F__law_draw 1 [(dC (.int 7))])) 7)
def lawK : SD := (sOwn (dCBS (oBest maxV) 9) 8)
def lawL : SD := (sWhile 200 (dAndT (dTB (dBin oGt (dCB (on1 (oBest minV)) [(dBin oAdd (dLst [(dC (.int 99))]) (dLc [15] (iVal (dCB F__law_settings [(dVar 9), (dVar 8)])) (gN 15) dYes (dCBS oLen 15)))]) (dVar 7))) (dTB (dBin oLt (dVar 8) (dC (.int 200))))) (sOwn (dBin oAdd (dVar 8) (dC (.int 1))) 8))
def lawM : SD := (sIf (dTB (dBin oNe (dCB F_least_width [(dVar 9), (dVar 7)]) (dVar 8))) (sRet (dC (.bl false))) sNil)
def turn77 : SD := (sSeq lawA (sSeq lawB (sSeq lawC (sSeq lawD (sSeq lawE (sSeq lawF (sSeq lawG (sSeq lawH (sSeq lawI (sSeq lawJ (sSeq lawK (sSeq lawL lawM))))))))))))
section
variable (is : List Int) (h : Val) (s2 s3 s4 s5 s6 s7 s8 s9 s10 s11 s12 s13 s14 : PV.Slot)
theorem lawA_ok (g : GH h) : ∃ h' ws w, lawA (E19 is h s2 s3 s4 s5 s6 s7 s8 s9 s10 s11 s12 s13 s14) = .ok (.nx (E19 is h' s2 s3 s4 s5 s6 s7 s8 (.frz (.tup (ws.map enc))) (.frz (.int w)) s11 s12 s13 s14)) ∧ GH h' ∧ Wd ws ∧ 1 ≤ w ∧ w ≤ 24 := by
  obtain ⟨ws, h1, e1, q1, q2, g1⟩ := law_words_ok g (most := 6) (by decide) (by decide)
  obtain ⟨d, h2, e2, q3, g2⟩ := drawI g1 (many := 24) (by decide) (by decide)
  refine ⟨h2, ws, 1 + d, ?_, g2, q1, by omega, by omega⟩
  unfold lawA
  simp [e1, e2]
variable {ws : List Int} {w : Int} (hW : Wd ws) (w1 : 1 ≤ w) (w2 : w ≤ 30)
include hW w1 w2
theorem lawB_ok : lawB (E19 is h s2 s3 s4 s5 s6 s7 s8 (.frz (.tup (ws.map enc))) (.frz (.int w)) s11 s12 s13 s14) = .ok (.nx (E19 is h s2 s3 s4 s5 s6 s7 s8 (.frz (.tup (ws.map enc))) (.frz (.int w)) (.frz (.lst ((every ws w).map enc))) (.frz (.lst ((toldO ws w).map enc))) s13 s14)) := by
  have e1 := law_settings_ok hW w
  have e2 := prices_of_ok hW w1 w2
  rw [show (List.range (ws.length + 1)).map (fun b => (ls ws w b).map (·.1)) = toldO ws w from rfl] at e2
  unfold lawB
  simp [e1, e2]
theorem lawC_ok : lawC (E19 is h s2 s3 s4 s5 s6 s7 s8 (.frz (.tup (ws.map enc))) (.frz (.int w)) (.frz (.lst ((every ws w).map enc))) s12 s13 s14) = .ok (.nx (E19 is h s2 s3 s4 s5 s6 s7 s8 (.frz (.tup (ws.map enc))) (.frz (.int w)) (.frz (.lst ((every ws w).map enc))) s12 s13 s14)) := by
  have e1 := setting_count_ok hW w1 w2
  have e2 := cnt_S ws w 0 (Nat.zero_le _)
  rw [← (every_perm ws w hW.one).length_eq] at e2
  unfold lawC
  simp [e1, e2]
theorem lawD_ok : lawD (E19 is h s2 s3 s4 s5 s6 s7 s8 (.frz (.tup (ws.map enc))) (.frz (.int w)) (.frz (.lst ((every ws w).map enc))) s12 s13 s14) = .ok (.nx (E19 is h s2 (.own (.lst ((fullsOf ws w).map enc))) s4 s5 s6 s7 s8 (.frz (.tup (ws.map enc))) (.frz (.int w)) (.frz (.lst ((every ws w).map enc))) s12 s13 s14)) := by
  have hev := every_len hW w
  have hf := hW.few
  unfold lawD
  rw [sOwn_a, lc_map (env1 := E19 is h s2 s3 s4 s5 s6 s7 s8 (.frz (.tup (ws.map enc))) (.frz (.int w)) (.frz (.lst ((every ws w).map enc))) s12 s13 s14) (every ws w) enc (fun r => .int (rsum ws (isF ws w) r)) (by simp) (by simp) (by rw [show sizeLine = 16777216 from rfl]; omega) (fun r hr => ?_) (by simp)]
  · simp [fullsOf]
  · have hS := (mem_every hW w r).mp hr
    have hlen := S_len w 0 (Nat.zero_le _) r hS
    have hz := lns_zip ws.length r
    rw [cut_map, enc_nat] at hz
    have hcat : oAdd (.tup ((cut r (some 1) none).map enc)) (.tup [.int (ws.length : Int)]) = .ok (.tup ((cut r (some 1) none).map enc ++ [.int (ws.length : Int)]), false) := oAdd_tt _ _ (by
      rw [List.length_map, cut_1, List.length_tail, show sizeLine = 16777216 from rfl]; simp; omega)
    have m1 := lc_filter (own := [17, 18]) (it := (iOf zipVs [(dVar 15), (dBin oAdd (dSl (dVar 15) (pSome (dC (.int 1))) pNone) (dTup [(dCBS oLen 9)]))])) (g := (gT 2 (gsCons (gN 17) (gsCons (gN 18) gsNil)))) (t := (dTB (dBin oEq (dCB F__law_long [(dVar 9), (dVar 17), (dVar 18)]) (dVar 10)))) (elt := (dC (.int 1)))
      (env := [.frz (.scr is), .own h, s2, s3, s4, s5, s6, s7, s8, (.frz (.tup (ws.map enc))), (.frz (.int w)), (.frz (.lst ((every ws w).map enc))), s12, s13, s14, .frz (.tup (r.map enc)), .emp, .emp, .emp])
      (env1 := [.frz (.scr is), .own h, s2, s3, s4, s5, s6, s7, s8, (.frz (.tup (ws.map enc))), (.frz (.int w)), (.frz (.lst ((every ws w).map enc))), s12, s13, s14, .frz (.tup (r.map enc)), .emp, .emp, .emp])
      (lns ws.length r) (fun p => .tup [enc p.1, enc p.2]) (fun _ => .int 1) (fun p => decide (long ws p.1 p.2 = w)) (by simp [hcat, zipVs, seqKV]; rw [hz]; simp) (by simp) (by rw [lns_len, show sizeLine = 16777216 from rfl]; omega) (fun p hp => by
        simp [law_long_ok]
        by_cases c : long ws p.1 p.2 = w <;> simp [c]) (by simp)
    have hc := full_count (ws := ws) w r
    simp [m1, hc]
theorem lawE_ok : lawE (E19 is h s2 (.own (.lst ((fullsOf ws w).map enc))) s4 s5 s6 s7 s8 (.frz (.tup (ws.map enc))) (.frz (.int w)) s11 s12 s13 s14) = .ok (.nx (E19 is h s2 (.frz (.lst ((fullsOf ws w).map enc))) s4 s5 s6 s7 s8 (.frz (.tup (ws.map enc))) (.frz (.int w)) s11 s12 s13 s14)) := by
  have e1 := full_lines_ok hW w1 w2
  rw [fl_every hW w] at e1
  have e2 := oNe_lnil (fullsOf ws w) (by decide)
  unfold lawE
  generalize fullsOf ws w = xs at e1 e2 ⊢
  cases q : maxL xs with
  | none =>
    have := maxL_none.mp q
    subst this
    rw [q] at e1
    have e3 : oNe .non .non = .ok (.bl false, false) := by rfl
    have e4 : oNe (.lst []) (.lst []) = .ok (.bl false, false) := by rfl
    simp at e1
    simp [e1, e3, e4]
  | some m =>
    rw [q] at e1
    have hb := max_map xs (by decide) m q
    simp at e1 hb
    have hne : xs ≠ [] := fun z => by rw [z] at q; cases q
    simp [e1, e2, hb, hne]
theorem lawF_ok (g : GH h) : ∃ (h' : Val) (ps : List Int), lawF (E19 is h s2 s3 s4 s5 s6 s7 s8 s9 s10 s11 (.frz (.lst ((toldO ws w).map enc))) s13 s14) = .ok (.nx (E19 is h' s2 s3 (.own (.lst (ps.map (enc : Int → Val)))) s5 s6 s7 s8 s9 s10 s11 (.frz (.lst ((toldO ws w).map enc))) s13 s14)) ∧ GH h' ∧ ps.length = ws.length + 1 ∧ ∀ p ∈ ps, 0 ≤ p ∧ p ≤ 12600 := by
  have hf := hW.few
  have hbnd := toldO_bnd hW w2
  have hlen : (toldO ws w).length = ws.length + 1 := by simp [toldO]
  generalize toldO ws w = T at hbnd hlen ⊢
  have key := lc_inv (own := [16]) (it := (iVal (dVar 12))) (g := (gN 16)) (t := dYes) (elt := (dIf (dTB (dBin oIsNot (dVar 16) (dC .non))) (dCB (on2 oMax2) [(dC (.int 0)), (dBin oSub (dVar 16) (dCallH F__law_draw 1 [(dC (.int 3))]))]) (dCallH F__law_draw 1 [(dC (.int 9))])))
    (env := E19 is h s2 s3 s4 s5 s6 s7 s8 s9 s10 s11 (.frz (.lst (T.map enc))) s13 s14) (env1 := E19 is h s2 s3 s4 s5 s6 s7 s8 s9 s10 s11 (.frz (.lst (T.map enc))) s13 s14) (vs := T.map enc)
    (Q := fun r => ∃ (ps : List Int) (h' : Val), r = (.lst (ps.map enc), true, E19 is h' s2 s3 s4 s5 s6 s7 s8 s9 s10 s11 (.frz (.lst (T.map enc))) s13 s14) ∧ ps.length = T.length ∧ (∀ p ∈ ps, 0 ≤ p ∧ p ≤ 12600) ∧ GH h')
    (fun i acc env => ∃ (ps : List Int) (h' : Val), acc = ps.map enc ∧ env = E19 is h' s2 s3 s4 s5 s6 s7 s8 s9 s10 s11 (.frz (.lst (T.map enc))) s13 s14 ∧ ps.length = i ∧ (∀ p ∈ ps, 0 ≤ p ∧ p ≤ 12600) ∧ GH h')
    (by simp) (by simp) (by rw [List.length_map, show sizeLine = 16777216 from rfl]; omega) ⟨[], h, rfl, by simp, rfl, by simp, g⟩
    (fun i hi acc env ⟨ps, h', ea, ee, el, ew, eg⟩ => ?_) (fun acc env ⟨ps, h', ea, ee, el, ew, eg⟩ => ⟨ps, h', by subst ea ee; simp, by simpa using el, ew, eg⟩)
  · obtain ⟨r, k1, ps, h', k2, k3, k4, k5⟩ := key.ex
    subst k2
    refine ⟨h', ps, ?_, k5, by omega, k4⟩
    unfold lawF
    rw [sOwn_a, k1]
    simp
  · subst ea ee
    have hi' : i < T.length := by simpa using hi
    rw [List.getElem_map]
    have hT := fun p (e : T[i] = some p) => hbnd p (by rw [← e]; exact List.getElem_mem hi')
    cases q : T[i] with
    | none =>
      obtain ⟨x, h3, q4, q5, q6⟩ := drawI eg (many := 9) (by decide) (by decide)
      simp [q4]
      refine ⟨ps ++ [(x : Int)], by simp, by simp [el], fun y hy => ?_, q6⟩
      rcases List.mem_append.mp hy with hy | hy
      · exact ew y hy
      · obtain rfl : y = (x : Int) := by simpa using hy
        omega
    | some p =>
      obtain ⟨x, h3, q4, q5, q6⟩ := drawI eg (many := 3) (by decide) (by decide)
      have hp := hT p q
      simp [q4]
      refine ⟨ps ++ [if (x : Int) < p then p - x else 0], by simp, by simp [el], fun y hy => ?_, q6⟩
      rcases List.mem_append.mp hy with hy | hy
      · exact ew y hy
      · obtain rfl : y = if (x : Int) < p then p - x else 0 := by simpa using hy
        split <;> omega
theorem lawG_ok (g : GH h) (ps : List Int) (hl : ps.length = ws.length + 1) (hp : ∀ p ∈ ps, 0 ≤ p ∧ p ≤ 12600) : ∃ (h' : Val) (rows : List (List Int)), lawG (E19 is h s2 s3 (.own (.lst (ps.map (enc : Int → Val)))) s5 s6 s7 s8 s9 s10 s11 (.frz (.lst ((toldO ws w).map enc))) s13 s14) = .ok (.nx (E19 is h' s2 s3 (.frz (.lst (ps.map (enc : Int → Val)))) (.own (.lst (rows.map (enc : List Int → Val)))) s6 s7 s8 s9 s10 s11 (.frz (.lst ((toldO ws w).map enc))) s13 s14)) ∧ GH h' ∧ rows.length ≤ 10 ∧ ∀ r ∈ rows, r.length = ws.length + 1 ∧ ∀ p ∈ r, 0 ≤ p ∧ p ≤ 100000 := by
  have hf := hW.few
  have hbnd := toldO_bnd hW w2
  have hlen : (toldO ws w).length = ws.length + 1 := by simp [toldO]
  generalize toldO ws w = T at hbnd hlen ⊢
  have hm := oMul_l1 (.int 0) T.length (by rw [show sizeLine = 16777216 from rfl]; omega)
  have key := lc_inv (own := [16]) (it := (iVal (dVar 4))) (g := (gN 16)) (t := dYes) (elt := (dBin oAdd (dVar 16) (dCallH F__law_draw 1 [(dC (.int 2))])))
    (env := E19 is h s2 s3 (.own (.lst (ps.map enc))) s5 s6 s7 s8 s9 s10 s11 (.frz (.lst (T.map enc))) s13 s14) (env1 := E19 is h s2 s3 (.frz (.lst (ps.map enc))) s5 s6 s7 s8 s9 s10 s11 (.frz (.lst (T.map enc))) s13 s14) (vs := ps.map enc)
    (Q := fun r => ∃ (qs : List Int) (h' : Val), r = (.lst (qs.map enc), true, E19 is h' s2 s3 (.frz (.lst (ps.map enc))) s5 s6 s7 s8 s9 s10 s11 (.frz (.lst (T.map enc))) s13 s14) ∧ qs.length = ps.length ∧ (∀ p ∈ qs, 0 ≤ p ∧ p ≤ 100000) ∧ GH h')
    (fun i acc env => ∃ (qs : List Int) (h' : Val), acc = qs.map enc ∧ env = E19 is h' s2 s3 (.frz (.lst (ps.map enc))) s5 s6 s7 s8 s9 s10 s11 (.frz (.lst (T.map enc))) s13 s14 ∧ qs.length = i ∧ (∀ p ∈ qs, 0 ≤ p ∧ p ≤ 100000) ∧ GH h')
    (by simp) (by simp) (by rw [List.length_map, show sizeLine = 16777216 from rfl]; omega) ⟨[], h, rfl, by simp, rfl, by simp, g⟩
    (fun i hi acc env ⟨qs, h', ea, ee, el, ew, eg⟩ => ?_) (fun acc env ⟨qs, h', ea, ee, el, ew, eg⟩ => ⟨qs, h', by subst ea ee; simp, by simpa using el, ew, eg⟩)
  · obtain ⟨r, k1, qs, h', k2, k3, k4, k5⟩ := key.ex
    subst k2
    have hin := oInB_l (none : Option Int) T (by decide)
    rw [enc_none] at hin
    have hno : oNotIn .non (.lst (T.map enc)) = .ok (.bl (!decide (none ∈ T)), false) := by unfold oNotIn; rw [hin]; simp
    have hrep : List.replicate T.length (Val.int 0) = (List.replicate T.length (0 : Int)).map enc := by rw [List.map_replicate]; rfl
    have base : ∀ r ∈ [List.replicate T.length (0 : Int), ps, qs], r.length = ws.length + 1 ∧ ∀ p ∈ r, 0 ≤ p ∧ p ≤ 100000 := fun r hr => by
      rcases List.mem_cons.mp hr with rfl | hr
      · exact ⟨by rw [List.length_replicate, hlen], fun p hp => by rw [List.eq_of_mem_replicate hp]; decide⟩
      · rcases List.mem_cons.mp hr with rfl | hr
        · exact ⟨hl, fun p h => by have := hp p h; omega⟩
        · rcases List.mem_cons.mp hr with rfl | hr
          · exact ⟨by omega, k4⟩
          · cases hr
    by_cases c : none ∈ T
    · refine ⟨h', [List.replicate T.length 0, ps, qs], ?_, k5, by simp, base⟩
      have hadd := oAdd_ll [Val.tup (List.replicate T.length (Val.int 0)), .tup (ps.map enc), .tup (qs.map enc)] [] (by rw [show sizeLine = 16777216 from rfl]; simp)
      rw [hrep] at hadd
      simp at hadd
      unfold lawG
      simp [hm, k1, hno, c, hadd]
    · obtain ⟨ts, rfl⟩ : ∃ ts : List Int, T = ts.map some := by
        clear hbnd hlen hm k1 hin hno hrep base key
        induction T with
        | nil => exact ⟨[], rfl⟩
        | cons x T ih =>
          cases x with
          | none => exact absurd (List.mem_cons_self) c
          | some p =>
            obtain ⟨ts, e⟩ := ih fun z => c (List.mem_cons_of_mem _ z)
            exact ⟨p :: ts, by rw [e]; rfl⟩
      have hts : (ts.map some).map (enc : Option Int → Val) = ts.map enc := by rw [List.map_map]; rfl
      refine ⟨h', [List.replicate (ts.map some).length 0, ps, qs, ts], ?_, k5, by simp, fun r hr => ?_⟩
      · have hadd := oAdd_ll [Val.tup (List.replicate (ts.map some).length (Val.int 0)), .tup (ps.map enc), .tup (qs.map enc)] [.tup (ts.map enc)] (by rw [show sizeLine = 16777216 from rfl]; simp)
        simp at hadd
        unfold lawG
        rw [hts] at k1 hno ⊢
        simp at hm
        simp [hm, k1, hno, hadd]
      · have : r ∈ [List.replicate (ts.map some).length (0 : Int), ps, qs] ∨ r = ts := by
          simp at hr ⊢
          rcases hr with h | h | h | h <;> simp [h]
        rcases this with h | rfl
        · exact base r h
        · refine ⟨by simpa using hlen, fun p hp => ?_⟩
          have := hbnd p (List.mem_map.mpr ⟨p, hp, rfl⟩)
          omega
  · subst ea ee
    have hi' : i < ps.length := by simpa using hi
    rw [List.getElem_map]
    have hq := hp ps[i] (List.getElem_mem hi')
    generalize ps[i] = p at hq
    obtain ⟨x, h3, q4, q5, q6⟩ := drawI eg (many := 2) (by decide) (by decide)
    simp [q4]
    refine ⟨qs ++ [p + (x : Int)], by simp, by simp [el], fun y hy => ?_, q6⟩
    rcases List.mem_append.mp hy with hy | hy
    · exact ew y hy
    · obtain rfl : y = p + (x : Int) := by simpa using hy
      omega
/-- one row of prices -/
theorem lawH1_ok (ps : List Int) (hl : ps.length = ws.length + 1) (hp : ∀ p ∈ ps, 0 ≤ p ∧ p ≤ 100000) : ∃ t13 t14, lawH1 (E19 is h s2 s3 s4 s5 (.frz (.tup (ps.map enc))) s7 s8 (.frz (.tup (ws.map enc))) (.frz (.int w)) (.frz (.lst ((every ws w).map enc))) s12 s13 s14) = .ok (.nx (E19 is h s2 s3 s4 s5 (.frz (.tup (ps.map enc))) s7 s8 (.frz (.tup (ws.map enc))) (.frz (.int w)) (.frz (.lst ((every ws w).map enc))) s12 t13 t14)) := by
  have hev := every_len hW w
  have e1 := law_bound_ok hW w1 w2 hl
  have e2 := are_bound_ok hW w1 w2 hl hp
  have m1 := lc_map (own := [15]) (it := (iVal (dVar 11))) (g := (gN 15)) (t := dYes) (elt := (dCB F__law_price [(dVar 9), (dVar 10), (dVar 15)]))
    (env := E19 is h s2 s3 s4 s5 (.frz (.tup (ps.map enc))) s7 s8 (.frz (.tup (ws.map enc))) (.frz (.int w)) (.frz (.lst ((every ws w).map enc))) s12 (.frz (.bl (bd ws w ps))) s14)
    (env1 := E19 is h s2 s3 s4 s5 (.frz (.tup (ps.map enc))) s7 s8 (.frz (.tup (ws.map enc))) (.frz (.int w)) (.frz (.lst ((every ws w).map enc))) s12 (.frz (.bl (bd ws w ps))) s14)
    (every ws w) enc (fun r => .int (rsum ws (lp ws w) r)) (by simp) (by simp) (by rw [show sizeLine = 16777216 from rfl]; omega) (fun r hr => by simp [law_price_ok hW w1 w2 ((mem_every hW w r).mp hr)]) (by simp)
  have hmap : (every ws w).map (fun r => Val.int (rsum ws (lp ws w) r)) = ((every ws w).map (rsum ws (lp ws w))).map enc := by rw [List.map_map]; rfl
  rw [hmap] at m1
  have hne : ((every ws w).map (rsum ws (lp ws w))) ++ [1000000000] ≠ [] := by simp
  obtain ⟨m, hm⟩ : ∃ m, minL (((every ws w).map (rsum ws (lp ws w))) ++ [1000000000]) = some m := by
    cases q : minL (((every ws w).map (rsum ws (lp ws w))) ++ [1000000000]) with
    | none => rw [minL_none] at q; exact absurd q hne
    | some m => exact ⟨m, rfl⟩
  have hb := min_map _ (by decide) m hm
  have hadd := oAdd_ll (((every ws w).map (rsum ws (lp ws w))).map enc) [Val.int 1000000000] (by rw [List.length_map, List.length_map, show sizeLine = 16777216 from rfl]; simp; omega)
  rw [show (((every ws w).map (rsum ws (lp ws w))).map enc) ++ [Val.int 1000000000] = (((every ws w).map (rsum ws (lp ws w))) ++ [1000000000]).map enc from by rw [List.map_append]; rfl] at hadd
  have i0 := oIx_t _ _ (at_at0 (ps := ps) (i := 0) (by omega))
  have hle : bd ws w ps = true → at0 ps 0 ≤ m := fun hbd => by
    rcases List.mem_append.mp (minL_some.mp hm).1 with q | q
    · obtain ⟨r, hr, rfl⟩ := List.mem_map.mp q
      exact bd_le hbd 0 (Nat.zero_le _) r ((mem_every hW w r).mp hr)
    · obtain rfl : m = 1000000000 := by simpa using q
      have : at0 ps 0 ∈ ps := by
        rw [at0, List.getD_eq_getElem?_getD, List.getElem?_eq_getElem (by omega)]
        exact List.getElem_mem _
      have := hp _ this
      omega
  generalize ((every ws w).map (rsum ws (lp ws w))) = xs at m1 hb hadd
  simp only [Int.natCast_zero, Int.ofNat_zero, Int.cast_ofNat_Int] at i0
  refine ⟨.frz (.bl (bd ws w ps)), .frz (.int m), ?_⟩
  unfold lawH1
  simp at hb hadd
  cases q : bd ws w ps with
  | true =>
    rw [q] at e1 e2 m1
    have := hle q
    have nlt : ¬ m < at0 ps 0 := by omega
    rw [sSeq_a, sOwn_a]
    simp [e1, m1, hadd, hb, e2, i0, nlt]
  | false =>
    rw [q] at e1 e2 m1
    simp [e1, m1, hadd, hb, e2]
end
end Lf

namespace Lf
open PySem PySem.Spec PyProof.Rows L2 PV
open EV (enc)
section
variable (is : List Int) (h : Val) (s2 s3 s4 s5 s6 s7 s8 s9 s10 s11 s12 s13 s14 : PV.Slot)
variable {ws : List Int} {w : Int} (hW : Wd ws) (w1 : 1 ≤ w) (w2 : w ≤ 30)
include hW w1 w2
theorem lawH_ok (rows : List (List Int)) (hr : ∀ r ∈ rows, r.length = ws.length + 1 ∧ ∀ p ∈ r, 0 ≤ p ∧ p ≤ 100000) : ∃ t5 t6 t13 t14, lawH (E19 is h s2 s3 s4 (.own (.lst (rows.map enc))) s6 s7 s8 (.frz (.tup (ws.map enc))) (.frz (.int w)) (.frz (.lst ((every ws w).map enc))) s12 s13 s14) = .ok (.nx (E19 is h s2 s3 s4 t5 t6 s7 s8 (.frz (.tup (ws.map enc))) (.frz (.int w)) (.frz (.lst ((every ws w).map enc))) s12 t13 t14)) := by
  have key := for_inv (g := gN 6) (b := lawH1) (Q := fun r => ∃ t5 t6 t13 t14, r = .nx (E19 is h s2 s3 s4 t5 t6 s7 s8 (.frz (.tup (ws.map enc))) (.frz (.int w)) (.frz (.lst ((every ws w).map enc))) s12 t13 t14)) (rows.map enc)
    (fun _ env => ∃ t5 t6 t13 t14, env = E19 is h s2 s3 s4 t5 t6 s7 s8 (.frz (.tup (ws.map enc))) (.frz (.int w)) (.frz (.lst ((every ws w).map enc))) s12 t13 t14)
    (E19 is h s2 s3 s4 (.frz (.lst (rows.map enc))) s6 s7 s8 (.frz (.tup (ws.map enc))) (.frz (.int w)) (.frz (.lst ((every ws w).map enc))) s12 s13 s14) ⟨_, _, _, _, rfl⟩ ?_ ?_
  · obtain ⟨r, k1, t5, t6, t13, t14, k2⟩ := key.ex
    subst k2
    refine ⟨t5, t6, t13, t14, ?_⟩
    unfold lawH
    simp [k1]
  · rintro i hi env ⟨t5, t6, t13, t14, rfl⟩
    have hi' : i < rows.length := by simpa using hi
    rw [List.getElem_map]
    obtain ⟨q1, q2⟩ := hr rows[i] (List.getElem_mem hi')
    obtain ⟨u13, u14, e⟩ := lawH1_ok is h s2 s3 s4 t5 s7 s8 s12 t13 t14 hW w1 w2 rows[i] q1 q2
    generalize rows[i] = ps at e
    simp
    rw [e]
    exact ⟨_, _, _, _, rfl⟩
  · rintro env ⟨t5, t6, t13, t14, rfl⟩
    exact ⟨_, _, _, _, rfl⟩
theorem lawI_ok : lawI (E19 is h s2 s3 s4 s5 s6 s7 s8 (.frz (.tup (ws.map enc))) (.frz (.int w)) s11 (.frz (.lst ((toldO ws w).map enc))) s13 s14) = .ok (.nx (E19 is h s2 s3 s4 s5 s6 s7 s8 (.frz (.tup (ws.map enc))) (.frz (.int w)) s11 (.frz (.lst ((toldO ws w).map enc))) s13 s14)) := by
  have hbnd := toldO_bnd hW w2
  have hlen : (toldO ws w).length = ws.length + 1 := by simp [toldO]
  have htb := fun ps => told_bd (ws := ws) (w := w) (ps := ps)
  generalize toldO ws w = T at hbnd hlen htb ⊢
  have hin := oInB_l (none : Option Int) T (by decide)
  rw [enc_none] at hin
  have hno : oNotIn .non (.lst (T.map enc)) = .ok (.bl (!decide (none ∈ T)), false) := by unfold oNotIn; rw [hin]; simp
  unfold lawI
  by_cases c : none ∈ T
  · simp [hno, c]
  · obtain ⟨ts, rfl⟩ : ∃ ts : List Int, T = ts.map some := by
      clear hbnd hlen htb hin hno
      induction T with
      | nil => exact ⟨[], rfl⟩
      | cons x T ih =>
        cases x with
        | none => exact absurd (List.mem_cons_self) c
        | some p =>
          obtain ⟨ts, e⟩ := ih fun z => c (List.mem_cons_of_mem _ z)
          exact ⟨p :: ts, by rw [e]; rfl⟩
    have hts : (ts.map some).map (enc : Option Int → Val) = ts.map enc := by rw [List.map_map]; rfl
    have e2 := are_bound_ok hW w1 w2 (ps := ts) (by simpa using hlen) fun p hp => by
      have := hbnd p (List.mem_map.mpr ⟨p, hp, rfl⟩)
      omega
    rw [htb ts rfl] at e2
    rw [hts] at hno ⊢
    simp [hno, e2]
omit hW w1 w2 in
theorem lawJ_ok (g : GH h) : ∃ h' n, lawJ (E19 is h s2 s3 s4 s5 s6 s7 s8 s9 s10 s11 s12 s13 s14) = .ok (.nx (E19 is h' s2 s3 s4 s5 s6 (.frz (.int n)) s8 s9 s10 s11 s12 s13 s14)) ∧ GH h' ∧ 1 ≤ n ∧ n ≤ 7 := by
  obtain ⟨x, h3, q4, q5, q6⟩ := drawI g (many := 7) (by decide) (by decide)
  refine ⟨h3, 1 + x, ?_, q6, by omega, by omega⟩
  unfold lawJ
  simp [q4]
omit w1 w2 in
theorem lawKLM_ok {lines : Int} (l1 : 1 ≤ lines) (l2 : lines ≤ 7) : ∃ t8, (sSeq lawK (sSeq lawL lawM)) (E19 is h s2 s3 s4 s5 s6 (.frz (.int lines)) s8 (.frz (.tup (ws.map enc))) s10 s11 s12 s13 s14) = .ok (.nx (E19 is h s2 s3 s4 s5 s6 (.frz (.int lines)) t8 (.frz (.tup (ws.map enc))) s10 s11 s12 s13 s14)) := by
  obtain ⟨m, hm, m1, m2, m3⟩ := maxW hW
  have hb := max_mapT ws (by decide) m hm
  obtain ⟨v, ev, lv⟩ := least_width_ok hW l1 (by omega) hm
  have hK : lawK (E19 is h s2 s3 s4 s5 s6 (.frz (.int lines)) s8 (.frz (.tup (ws.map enc))) s10 s11 s12 s13 s14) = .ok (.nx (E19 is h s2 s3 s4 s5 s6 (.frz (.int lines)) (.frz (.int m)) (.frz (.tup (ws.map enc))) s10 s11 s12 s13 s14)) := by
    unfold lawK
    simp at hb
    simp [hb]
  have key := while_inv (t := (dAndT (dTB (dBin oGt (dCB (on1 (oBest minV)) [(dBin oAdd (dLst [(dC (.int 99))]) (dLc [15] (iVal (dCB F__law_settings [(dVar 9), (dVar 8)])) (gN 15) dYes (dCBS oLen 15)))]) (dVar 7))) (dTB (dBin oLt (dVar 8) (dC (.int 200)))))) (b := (sOwn (dBin oAdd (dVar 8) (dC (.int 1))) 8))
    (Q := fun r => ∃ v, r = .nx (E19 is h s2 s3 s4 s5 s6 (.frz (.int lines)) (.frz (.int v)) (.frz (.tup (ws.map enc))) s10 s11 s12 s13 s14) ∧ LeastW ws lines m v)
    (fun k env => ∃ v, env = E19 is h s2 s3 s4 s5 s6 (.frz (.int lines)) (.frz (.int v)) (.frz (.tup (ws.map enc))) s10 s11 s12 s13 s14 ∧ (k : Int) = 195 - v ∧ m ≤ v ∧ v ≤ 190 ∧ ∀ u, m ≤ u → u < v → lines < ((fullS ws u).length : Int)) ?_ 200 (195 - m).toNat
    (E19 is h s2 s3 s4 s5 s6 (.frz (.int lines)) (.frz (.int m)) (.frz (.tup (ws.map enc))) s10 s11 s12 s13 s14) (by omega) ⟨m, rfl, by omega, by omega, by omega, fun u a b => by omega⟩
  · obtain ⟨r, k1, v', rfl, k2⟩ := key.ex
    have : v = v' := lv.one k2
    subst this
    refine ⟨.frz (.int v), ?_⟩
    rw [sSeq_a, hK]
    simp only [res_ok_bind]
    rw [sSeq_a]
    unfold lawL
    rw [sWhile_a, k1]
    simp only [res_ok_bind]
    unfold lawM
    simp [ev]
  · rintro k env ⟨v, rfl, kv, mv, v2, no⟩
    have es := law_settings_ok hW v
    have hev := every_len hW v
    have m1 := lc_map (own := [15]) (it := (iVal (dCB F__law_settings [(dVar 9), (dVar 8)]))) (g := (gN 15)) (t := dYes) (elt := (dCBS oLen 15))
      (env := E19 is h s2 s3 s4 s5 s6 (.frz (.int lines)) (.frz (.int v)) (.frz (.tup (ws.map enc))) s10 s11 s12 s13 s14) (env1 := E19 is h s2 s3 s4 s5 s6 (.frz (.int lines)) (.frz (.int v)) (.frz (.tup (ws.map enc))) s10 s11 s12 s13 s14)
      (every ws v) enc (fun r => .int (r.length : Int)) (by simp [es]) (by simp) (by rw [show sizeLine = 16777216 from rfl]; omega) (fun r _ => by simp) (by simp)
    have hmap : (every ws v).map (fun r => Val.int (r.length : Int)) = ((every ws v).map fun r => (r.length : Int)).map enc := by rw [List.map_map]; rfl
    rw [hmap] at m1
    have hf := fewest hW hm mv
    have hbm := min_map _ (by decide) _ hf
    have hadd := oAdd_ll [Val.int 99] (((every ws v).map fun r => (r.length : Int)).map enc) (by rw [List.length_map, List.length_map, show sizeLine = 16777216 from rfl]; simp; omega)
    generalize ((every ws v).map fun r => (r.length : Int)) = xs at m1 hbm hadd
    simp at hbm hadd
    have v200 : v < 200 := by omega
    by_cases c : lines < ((fullS ws v).length : Int)
    · have := wide_one hW l1 c
      simp [m1, hadd, hbm, c, v200]
      refine ⟨by omega, ⟨by omega, by omega, by omega, fun u a b => ?_⟩⟩
      by_cases e : u = v
      · rw [e]; exact c
      · exact no u a (by omega)
    · simp [m1, hadd, hbm, c]
      exact ⟨mv, by omega, no⟩
end
theorem seq_ok {d1 d2 : SD} {env env1 : EnvD} {r : Res SR} (h : d1 env = .ok (.nx env1)) (q : d2 env1 = r) : sSeq d1 d2 env = r := by
  rw [sSeq_a, h]; exact q
theorem turn_ok (is : List Int) (h : Val) (g : GH h) (s2 s3 s4 s5 s6 s7 s8 s9 s10 s11 s12 s13 s14 : PV.Slot) : ∃ h' t3 t4 t5 t6 t7 t8 t9 t10 t11 t12 t13 t14, turn77 (E19 is h s2 s3 s4 s5 s6 s7 s8 s9 s10 s11 s12 s13 s14) = .ok (.nx (E19 is h' s2 t3 t4 t5 t6 t7 t8 t9 t10 t11 t12 t13 t14)) ∧ GH h' := by
  obtain ⟨h1, ws, w, eA, g1, hW, w1, w2⟩ := lawA_ok is h s2 s3 s4 s5 s6 s7 s8 s9 s10 s11 s12 s13 s14 g
  have w2' : w ≤ 30 := by omega
  have eB := lawB_ok is h1 s2 s3 s4 s5 s6 s7 s8 s11 s12 s13 s14 hW w1 w2'
  have eC := lawC_ok is h1 s2 s3 s4 s5 s6 s7 s8 (.frz (.lst ((toldO ws w).map enc))) s13 s14 hW w1 w2'
  have eD := lawD_ok is h1 s2 s3 s4 s5 s6 s7 s8 (.frz (.lst ((toldO ws w).map enc))) s13 s14 hW w1 w2'
  have eE := lawE_ok is h1 s2 s4 s5 s6 s7 s8 (.frz (.lst ((every ws w).map enc))) (.frz (.lst ((toldO ws w).map enc))) s13 s14 hW w1 w2'
  obtain ⟨h2, ps, eF, g2, p1, p2⟩ := lawF_ok is h1 s2 (.frz (.lst ((fullsOf ws w).map enc))) s4 s5 s6 s7 s8 (.frz (.tup (ws.map enc))) (.frz (.int w)) (.frz (.lst ((every ws w).map enc))) s13 s14 hW w1 w2' g1
  obtain ⟨h3, rows, eG, g3, r1, r2⟩ := lawG_ok is h2 s2 (.frz (.lst ((fullsOf ws w).map enc))) s5 s6 s7 s8 (.frz (.tup (ws.map enc))) (.frz (.int w)) (.frz (.lst ((every ws w).map enc))) s13 s14 hW w1 w2' g2 ps p1 p2
  obtain ⟨t5, t6, t13, t14, eH⟩ := lawH_ok is h3 s2 (.frz (.lst ((fullsOf ws w).map enc))) (.frz (.lst (ps.map enc))) s6 s7 s8 (.frz (.lst ((toldO ws w).map enc))) s13 s14 hW w1 w2' rows r2
  have eI := lawI_ok is h3 s2 (.frz (.lst ((fullsOf ws w).map enc))) (.frz (.lst (ps.map enc))) t5 t6 s7 s8 (.frz (.lst ((every ws w).map enc))) t13 t14 hW w1 w2'
  obtain ⟨h4, n, eJ, g4, n1, n2⟩ := lawJ_ok is h3 s2 (.frz (.lst ((fullsOf ws w).map enc))) (.frz (.lst (ps.map enc))) t5 t6 s7 s8 (.frz (.tup (ws.map enc))) (.frz (.int w)) (.frz (.lst ((every ws w).map enc))) (.frz (.lst ((toldO ws w).map enc))) t13 t14 g3
  obtain ⟨t8, eK⟩ := lawKLM_ok is h4 s2 (.frz (.lst ((fullsOf ws w).map enc))) (.frz (.lst (ps.map enc))) t5 t6 s8 (.frz (.int w)) (.frz (.lst ((every ws w).map enc))) (.frz (.lst ((toldO ws w).map enc))) t13 t14 hW n1 n2
  refine ⟨h4, (.frz (.lst ((fullsOf ws w).map enc))), (.frz (.lst (ps.map enc))), t5, t6, (.frz (.int n)), t8, (.frz (.tup (ws.map enc))), (.frz (.int w)), (.frz (.lst ((every ws w).map enc))), (.frz (.lst ((toldO ws w).map enc))), t13, t14, ?_, g4⟩
  exact seq_ok eA (seq_ok eB (seq_ok eC (seq_ok eD (seq_ok eE (seq_ok eF (seq_ok eG (seq_ok eH (seq_ok eI (seq_ok eJ eK)))))))))
end Lf

namespace Lf
open PySem PySem.Spec PyProof.Rows L2 PV
open PySem.W (minD maxD dataLt)
/-- lines_of(words, begins): 0 words 1 begins -/
def d_lines_of : SD := (sRet (dCB oListZip [(dVar 1), (dBin oAdd (dSl (dVar 1) (pSome (dC (.int 1))) pNone) (dTup [(dCBS oLen 0)]))]))
def F_lines_of : Fn := runF 2 2 d_lines_of
/-- is_setting_of(words, w, thing): 0 words 1 w 2 thing 3 begin 4 end 5 one 6 other -/
def d_is_setting_of : SD := (sSeq (sIf (dOrT (dNotT (dTru (dCB F_is_sized [(dVar 2), (dC (.int 1)), (dCBS oLen 0)]))) (dNotT (dTru (dCB (on1 oAll) [(dLc [5] (iVal (dVar 2)) (gN 5) dYes (dCB F_is_within [(dVar 5), (dC (.int 0)), (dBin oSub (dCBS oLen 0) (dC (.int 1)))]))])))) (sRet (dC (.bl false))) sNil)
    (sSeq (sIf (dOrT (dTB (dBin oNe (dIxS 2 (dC (.int 0))) (dC (.int 0)))) (dNotT (dTru (dCB (on1 oAll) [(dLc [5, 6] (iOf zipVs [(dVar 2), (dSl (dVar 2) (pSome (dC (.int 1))) pNone)]) (gT 2 (gsCons (gN 5) (gsCons (gN 6) gsNil))) dYes (dBin oLt (dVar 5) (dVar 6)))])))) (sRet (dC (.bl false))) sNil)
    (sRet (dCB (on1 oAll) [(dLc [3, 4] (iVal (dCB F_lines_of [(dVar 0), (dVar 2)])) (gT 2 (gsCons (gN 3) (gsCons (gN 4) gsNil))) dYes (dBin oGe (dCB F_room_of [(dVar 0), (dVar 1), (dVar 3), (dVar 4)]) (dC (.int 0))))]))))
def F_is_setting_of : Fn := runF 7 3 d_is_setting_of
/-- set_lines(words, w): 0 words 1 w 2 number 3 length -/
def d_set_lines : SD := (sSeq (sExpr (dCB F_check_page [(dVar 0), (dVar 1)]))
    (sSeq (sFor (iOf enumV [(dVar 0)]) (gT 2 (gsCons (gN 2) (gsCons (gN 3) gsNil))) (sIf (dTB (dBin oGt (dVar 3) (dVar 1))) (sRet (dTup [(dC (.str "long")), (dVar 2)])) sNil))
    (sRet (dTup [(dC (.str "lines")), (dCB F_full_setting [(dVar 0), (dVar 1)])]))))
def F_set_lines : Fn := runF 4 2 d_set_lines
/-- check_setting(words, w, begins): 0 words 1 w 2 begins -/
def d_check_setting : SD := (sSeq (sExpr (dCB F_check_page [(dVar 0), (dVar 1)]))
    (sIf (dNotT (dTru (dCB F_is_setting_of [(dVar 0), (dVar 1), (dVar 2)]))) sNo sNil))
def F_check_setting : Fn := runF 3 3 d_check_setting
/-- price_of(words, w, begins): 0 words 1 w 2 begins 3 begin 4 end -/
def d_price_of : SD := (sSeq (sExpr (dCB F_check_setting [(dVar 0), (dVar 1), (dVar 2)]))
    (sRet (dCB (on1 oSum) [(dLc [3, 4] (iVal (dCB F_lines_of [(dVar 0), (dVar 2)])) (gT 2 (gsCons (gN 3) (gsCons (gN 4) gsNil))) dYes (dCB F_line_price [(dVar 0), (dVar 1), (dVar 3), (dVar 4)]))])))
def F_price_of : Fn := runF 5 3 d_price_of
/-- least_ragged(words, w): 0 words 1 w -/
def d_least_ragged : SD := (sSeq (sExpr (dCB F_check_page [(dVar 0), (dVar 1)]))
    (sRet (dBin oIx (dCB F_least_settings [(dVar 0), (dVar 1)]) (dC (.int 0)))))
def F_least_ragged : Fn := runF 2 2 d_least_ragged
/-- law(script): 0 script 1 hand 2 turn 3 every 4 told 5 due 6 at 7 words 8 w 9 row 10 here 11 one -/
def d_law_k76 : SD := (sSeq (sOwn (dCB F__law_hand [(dVar 0)]) 1)
    (sSeq (sIf (dTB (dBin oNe (dCB F_price_of [(dTup [(dC (.int 3)), (dC (.int 2)), (dC (.int 2)), (dC (.int 5))]), (dC (.int 6)), (dTup [(dC (.int 0)), (dC (.int 1)), (dC (.int 3))])]) (dC (.int 10)))) (sRet (dC (.bl false))) sNil)
    (sSeq (sIf (dTB (dBin oNe (dCB F_price_of [(dTup [(dC (.int 3)), (dC (.int 2)), (dC (.int 2)), (dC (.int 5))]), (dC (.int 6)), (dTup [(dC (.int 0)), (dC (.int 2)), (dC (.int 3))])]) (dC (.int 16)))) (sRet (dC (.bl false))) sNil)
    (sSeq (sIf (dTB (dBin oNe (dCB (on1 oTuple) [(dCB F_least_ragged [(dTup [(dC (.int 3)), (dC (.int 2)), (dC (.int 2)), (dC (.int 5))]), (dC (.int 6))])]) (dTup [(dC (.int 10)), (dTup [(dC (.int 0)), (dC (.int 1)), (dC (.int 3))])]))) (sRet (dC (.bl false))) sNil)
    (sSeq (sIf (dTB (dBin oIsNot (dCB F_least_ragged [(dTup [(dC (.int 7))]), (dC (.int 6))]) (dC .non))) (sRet (dC (.bl false))) sNil)
    (sSeq (sIf (dTB (dBin oNe (dCB (on1 oTuple) [(dCB F_prices_of [(dTup [(dC (.int 3)), (dC (.int 2)), (dC (.int 2)), (dC (.int 5))]), (dC (.int 6))])]) (dTup [(dC (.int 10)), (dC (.int 1)), (dC (.int 16)), (dC (.int 0)), (dC (.int 0))]))) (sRet (dC (.bl false))) sNil)
    (sSeq (sIf (dTB (dBin oNe (dCB (on1 oTuple) [(dCB F_prices_of [(dTup [(dC (.int 7)), (dC (.int 3))]), (dC (.int 6))])]) (dTup [(dC .non), (dC (.int 0)), (dC (.int 0))]))) (sRet (dC (.bl false))) sNil)
    (sSeq (sFor (iRng [(dC (.int 5))]) (gN 2) (sSeq (sAsg (dTup [(dCallH F__law_words 1 [(dC (.int 7))]), (dBin oAdd (dC (.int 1)) (dCallH F__law_draw 1 [(dC (.int 24))]))]) (gT 2 (gsCons (gN 7) (gsCons (gN 8) gsNil))))
    (sSeq (sOwn (dCB F__law_settings [(dVar 7), (dVar 8)]) 3)
    (sSeq (sOwn (dCB F_least_ragged [(dVar 7), (dVar 8)]) 4)
    (sSeq (sIf (dTB (dBin oNe (dBin oIs (dVar 4) (dC .non)) (dBin oEq (dVar 3) (dLst [])))) (sRet (dC (.bl false))) sNil)
    (sSeq (sIf (dTB (dBin oNe (dVar 3) (dLst []))) (sSeq (sOwn (dCallH F__law_some 1 [(dVar 3)]) 9)
    (sSeq (sIf (dTB (dBin oNe (dCBS oTuple 4) (dCB (on1 (oBest minV)) [(dLc [11] (iVal (dVar 3)) (gN 11) dYes (dTup [(dCB F__law_price [(dVar 7), (dVar 8), (dVar 11)]), (dVar 11)]))]))) (sRet (dC (.bl false))) sNil)
    (sSeq (sIf (dTB (dBin oNe (dCB F_price_of [(dVar 7), (dVar 8), (dVar 9)]) (dCB F__law_price [(dVar 7), (dVar 8), (dVar 9)]))) (sRet (dC (.bl false))) sNil)
    (sIf (dTB (dBin oGt (dIxS 4 (dC (.int 0))) (dCB F_price_of [(dVar 7), (dVar 8), (dBin oIx (dCB F_set_lines [(dVar 7), (dVar 8)]) (dC (.int 1)))]))) (sRet (dC (.bl false))) sNil)))) sNil)
    (sSeq (sOwn (dLst []) 5)
    (sSeq (sFor (iRng [(dCBS oLen 7)]) (gN 6) (sSeq (sOwn (dCB F__law_settings [(dSl (dVar 7) (pSome (dVar 6)) pNone), (dVar 8)]) 10)
    (sExpr (dApp 5 (dIf (dTB (dBin oNe (dVar 10) (dLst []))) (dCB (on1 (oBest minV)) [(dLc [11] (iVal (dVar 10)) (gN 11) dYes (dCB F__law_price [(dSl (dVar 7) (pSome (dVar 6)) pNone), (dVar 8), (dVar 11)]))]) (dC .non))))))
    (sIf (dTB (dBin oNe (dCB (on1 oList) [(dCB F_prices_of [(dVar 7), (dVar 8)])]) (dBin oAdd (dVar 5) (dLst [(dC (.int 0))])))) (sRet (dC (.bl false))) sNil)))))))))
    (sRet (dC (.bl true)))))))))))
def F_law_k76 : Fn := runF 12 1 d_law_k76
end Lf

namespace Lf
open PySem PySem.Spec PyProof.Rows L2 PV
open EV (enc)
theorem szl {n : Nat} (h : n ≤ 1000000) : n ≤ sizeLine := by rw [show sizeLine = 16777216 from rfl]; omega
theorem lines_of_ok {ws : List Int} (h : Wd ws) (r : List Nat) (hr : r.length ≤ 1000) : F_lines_of [.tup (ws.map enc), .tup (r.map enc)] = .ok (.lst ((lns ws.length r).map fun p => .tup [enc p.1, enc p.2]), true) := by
  have hz := lns_zip ws.length r
  rw [cut_map] at hz
  have hc : oAdd (.tup ((cut r (some 1) none).map enc)) (.tup [.int (ws.length : Int)]) = .ok (.tup ((cut r (some 1) none).map enc ++ [.int (ws.length : Int)]), false) := oAdd_tt _ _ (by rw [List.length_map, cut_1, List.length_tail]; exact szl (by simp; omega))
  simp [F_lines_of, runF, d_lines_of, hc, oListZip, zipVs, seqKV]
  simp at hz
  rw [hz]
/-- what a setting is like -/
theorem S0 {ws : List Int} (h : Wd ws) {w : Int} {r : List Nat} (hr : r ∈ S ws w 0) : 1 ≤ r.length ∧ r.length ≤ ws.length ∧ (∃ s, r = 0 :: s) ∧ (∀ x ∈ r, x < ws.length) ∧ ∀ p ∈ lns ws.length r, p.1 < p.2 ∧ p.2 ≤ ws.length ∧ fit ws w p.1 p.2 = true := by
  have h1 := h.one
  have hl := S_len w 0 (Nat.zero_le _) r hr
  have hs := S_lns w 0 (Nat.zero_le _) r hr
  obtain ⟨s, rfl⟩ : ∃ s, r = 0 :: s := by
    rcases S_head ws w 0 (Nat.zero_le _) r hr with ⟨e, _⟩ | ⟨_, s, e⟩
    · omega
    · exact ⟨s, e⟩
  refine ⟨by simp, by omega, ⟨s, rfl⟩, fun x hx => ?_, hs⟩
  have key : ∀ (r : List Nat) (n : Nat) x, x ∈ r → ∃ p ∈ lns n r, p.1 = x := fun r n x => by
    induction r with
    | nil => intro hx; cases hx
    | cons b r ih =>
      intro hx
      rw [lns]
      rcases List.mem_cons.mp hx with rfl | hx
      · exact ⟨_, List.mem_cons_self, rfl⟩
      · obtain ⟨p, hp, e⟩ := ih hx
        exact ⟨p, List.mem_cons_of_mem _ hp, e⟩
  obtain ⟨p, hp, rfl⟩ := key _ ws.length x hx
  have := hs p hp
  omega
theorem is_setting_of_S {ws : List Int} (h : Wd ws) {w : Int} {r : List Nat} (hr : r ∈ S ws w 0) : F_is_setting_of [.tup (ws.map enc), .int w, .tup (r.map enc)] = .ok (.bl true, false) := by
  obtain ⟨h1, h2, ⟨s, hs⟩, h4, h5⟩ := S0 h hr
  have hf := h.few
  have hz := lns_price ws.length r
  have hl := lns_len ws.length r
  have lo := lines_of_ok h r (by omega)
  have i0 : atI (r.map enc) 0 = some (.int 0) := by subst hs; exact atI_nat' (xs := (0 :: s).map (enc : Nat → Val)) (i := 0) (by simp)
  rw [cut_map] at hz
  have hsz : F_is_sized [.tup (r.map enc), .int 1, .int (ws.length : Int)] = .ok (.bl true, false) := by
    rw [is_sized_t, List.length_map, decide_eq_true (by omega), decide_eq_true (by omega)]; rfl
  have hw : ∀ x ∈ r, F_is_within [.int (x : Int), .int 0, .int ((ws.length : Int) - 1)] = .ok (.bl true, false) := fun x hx => by
    have := h4 x hx
    rw [is_within_i, decide_eq_true (by omega), decide_eq_true (by omega)]; rfl
  have hlt : ∀ p ∈ (lns ws.length r).dropLast, p.1 < p.2 := fun p hp => (h5 p (List.dropLast_subset _ hp)).1
  have hrm : ∀ p ∈ lns ws.length r, 0 ≤ room ws w p.1 p.2 := fun p hp => of_decide_eq_true (h5 p hp).2.2
  have hld : (lns ws.length r).dropLast.length ≤ 14 := by rw [List.length_dropLast]; omega
  simp [F_is_setting_of, runF, d_is_setting_of, hsz]
  rw [lcM r enc (fun _ => .bl true) (by simp) (szl (by omega)) (fun x hx => by simp [hw x hx]) (by simp) (by simp)]
  simp [oIx_t _ _ i0]
  generalize (lns ws.length r).dropLast = D at *
  rw [lcM D (fun p => .tup [enc p.1, enc p.2]) (fun p => .bl true) (by simp [zipVs, seqKV]; simp at hz; rw [hz]) (szl (by omega)) (fun x hx => by simp [hlt x hx]) (by simp) (by simp)]
  simp
  generalize lns ws.length r = L at *
  rw [lcM L (fun p => .tup [enc p.1, enc p.2]) (fun p => .bl true) (by simp [lo]) (szl (by omega)) (fun x hx => by simp [room_of_ok, hrm x hx]) (by simp) (by simp)]
  simp
theorem price_of_S {ws : List Int} (h : Wd ws) {w : Int} (h1 : 1 ≤ w) (h2 : w ≤ 30) {r : List Nat} (hr : r ∈ S ws w 0) : F_price_of [.tup (ws.map enc), .int w, .tup (r.map enc)] = .ok (.int (rsum ws (lp ws w) r), false) := by
  obtain ⟨_, h3, _, _, h5⟩ := S0 h hr
  have hf := h.few
  have hl := lns_len ws.length r
  have lo := lines_of_ok h r (by omega)
  have ck : F_check_setting [.tup (ws.map enc), .int w, .tup (r.map enc)] = .ok (.non, false) := by
    simp [F_check_setting, runF, d_check_setting, check_page_ok h h1 h2, is_setting_of_S h hr]
  rw [rsum_lns]
  simp [F_price_of, runF, d_price_of, ck]
  generalize lns ws.length r = L at *
  rw [lcM L (fun p => .tup [enc p.1, enc p.2]) (fun p => .int (lp ws w p.1 p.2)) (by simp [lo]) (szl (by omega)) (fun p hp => by
    have := h5 p hp
    simp [line_price_ok ws w p.1 p.2 (room_bnd h h1 (by omega) this.2.1 (by omega))]) (by simp) (by simp)]
  simp
theorem least_ragged_ok {ws : List Int} (h : Wd ws) {w : Int} (h1 : 1 ≤ w) (h2 : w ≤ 30) : F_least_ragged [.tup (ws.map enc), .int w] = .ok (enc (ls ws w 0), false) := by
  have e := least_settings_ok h h1 h2
  have i0 := T0 (fun b => enc (ls ws w b)) ws.length
  simp [F_least_ragged, runF, d_least_ragged, check_page_ok h h1 h2, e, oIx_l _ _ i0]
/-- where there is a setting, no word is too long -/
theorem S_fits {ws : List Int} (h : Wd ws) {w : Int} {r : List Nat} (hr : r ∈ S ws w 0) : ∀ x ∈ ws, x ≤ w := fun x hx => by
  have hp : ∀ x ∈ ws, 1 ≤ x := fun x hx => (h.all x hx).1
  obtain ⟨i, hi, rfl⟩ := List.mem_iff_getElem.mp hx
  have key : ∀ b, b ≤ ws.length → ∀ r ∈ S ws w b, b ≤ i → ws[i] ≤ w := down ws (fun r _ hb => by omega) fun b hb ih r hr hbi => by
    obtain ⟨e, s, h1, h3, h4, h5, rfl⟩ := (mem_S ws w hb).mp hr
    by_cases c : i < e
    · have := room_mono (w := w) hp (b := b) (b' := i) (e' := i + 1) (e := e) hbi (by omega) (by omega)
      have q : 0 ≤ room ws w b e := of_decide_eq_true h4
      unfold room at this q
      rw [seg_one hi] at this
      omega
    · exact ih e h1 h3 s h5 (by omega)
  exact key 0 (Nat.zero_le _) r hr (Nat.zero_le _)
theorem set_lines_fit {ws : List Int} (h : Wd ws) {w : Int} (h1 : 1 ≤ w) (h2 : w ≤ 30) (hw : ∀ x ∈ ws, x ≤ w) : F_set_lines [.tup (ws.map enc), .int w] = .ok (.tup [.str "lines", .tup ((fullS ws w).map enc)], false) := by
  have hf := h.few
  have fs := full_setting_ok h w
  have key := for_inv (g := (gT 2 (gsCons (gN 2) (gsCons (gN 3) gsNil)))) (b := (sIf (dTB (dBin oGt (dVar 3) (dVar 1))) (sRet (dTup [(dC (.str "long")), (dVar 2)])) sNil))
    (Q := fun r => ∃ a b, r = .nx [.frz (.tup (ws.map enc)), .frz (.int w), a, b]) (enumD (ws.map enc)) (fun i env => ∃ a b, env = [.frz (.tup (ws.map enc)), .frz (.int w), a, b]) [.frz (.tup (ws.map enc)), .frz (.int w), .emp, .emp] ⟨_, _, rfl⟩ ?_ ?_
  · obtain ⟨r, k1, a, b, rfl⟩ := key.ex
    simp [F_set_lines, runF, d_set_lines, check_page_ok h h1 h2, enumV, seqKV, fs]
    simp [k1, fs]
  · rintro i hi env ⟨a, b, rfl⟩
    have hi' : i < ws.length := by simpa [enumD] using hi
    have e : (enumD (ws.map (enc : Int → Val)))[i] = .tup [.int i, .int ws[i]] := by simp [enumD]
    rw [e]
    have q := hw _ (List.getElem_mem hi')
    have nq : ¬ w < ws[i] := by omega
    simp [nq]
  · rintro env ⟨a, b, rfl⟩
    exact ⟨_, _, rfl⟩
/-! ### the words from one on -/
theorem minL_fst {β : Type} [OV β] [DecidableEq β] {γ : Type} (f : γ → Int) (g : γ → β) (l : List γ) : (minL (l.map fun r => (f r, g r))).map (·.1) = minL (l.map f) := by
  cases e : minL (l.map fun r => (f r, g r)) with
  | none =>
    rw [minL_none, List.map_eq_nil_iff] at e
    subst e; rfl
  | some m =>
    obtain ⟨h1, h2⟩ := minL_some.mp e
    obtain ⟨r, hr, hm⟩ := List.mem_map.mp h1
    refine (minL_some.mpr ⟨?_, fun y hy => ?_⟩).symm
    · rw [← hm]; exact List.mem_map.mpr ⟨r, hr, rfl⟩
    · obtain ⟨q, hq, rfl⟩ := List.mem_map.mp hy
      have := h2 _ (List.mem_map.mpr ⟨q, hq, rfl⟩)
      have this : (if f q = m.1 then _ else decide (f q < m.1)) = false := this
      show decide (f q < m.1) = false
      by_cases c : f q = m.1
      · exact decide_eq_false (by omega)
      · rw [if_neg c] at this; exact this
theorem seg_drop (ws : List Int) (k b e : Nat) : seg (ws.drop k) b e = seg ws (k + b) (k + e) := by
  unfold seg
  rw [List.drop_drop, show k + e - (k + b) = e - b by omega]
theorem room_drop (ws : List Int) (w : Int) (k b e : Nat) : room (ws.drop k) w b e = room ws w (k + b) (k + e) := by
  unfold room; rw [seg_drop]; omega
theorem prices_drop {ws : List Int} (w : Int) {k : Nat} (hk : k ≤ ws.length) : ∀ b, b ≤ (ws.drop k).length → ∀ p, p ∈ (S (ws.drop k) w b).map (rsum (ws.drop k) (lp (ws.drop k) w)) ↔ p ∈ (S ws w (k + b)).map (rsum ws (lp ws w)) := by
  have hl : (ws.drop k).length = ws.length - k := by simp
  refine down (ws.drop k) (fun p => ?_) fun b hb ih p => ?_
  · rw [S_top, hl, show k + (ws.length - k) = ws.length by omega, S_top]; simp [rsum]
  · have hb' : k + b < ws.length := by omega
    rw [List.mem_map, List.mem_map]
    have hlp : ∀ e, lp (ws.drop k) w b e = lp ws w (k + b) (k + e) := fun e => by
      unfold lp
      rw [room_drop]
      by_cases c : e = (ws.drop k).length
      · rw [if_pos c, if_pos (by omega)]
      · rw [if_neg c, if_neg (by omega)]
    constructor
    · rintro ⟨r, hr, rfl⟩
      obtain ⟨e, s, q1, q2, q3, q4, rfl⟩ := (mem_S _ w hb).mp hr
      obtain ⟨s', hs', es⟩ := List.mem_map.mp ((ih e q1 q2 (rsum (ws.drop k) (lp (ws.drop k) w) s)).mp (List.mem_map.mpr ⟨s, q4, rfl⟩))
      refine ⟨(k + b) :: s', (mem_S ws w hb').mpr ⟨k + e, s', by omega, by omega, ?_, hs', rfl⟩, ?_⟩
      · unfold fit at q3 ⊢; rw [← room_drop]; exact q3
      · rw [rsum_cons ws w (by omega) hs', rsum_cons _ w q2 q4, es, hlp]
    · rintro ⟨r, hr, rfl⟩
      obtain ⟨e, s, q1, q2, q3, q4, rfl⟩ := (mem_S ws w hb').mp hr
      obtain ⟨e', rfl⟩ : ∃ e', e = k + e' := ⟨e - k, by omega⟩
      have q2' : e' ≤ (ws.drop k).length := by omega
      obtain ⟨s', hs', es⟩ := List.mem_map.mp ((ih e' (by omega) q2' (rsum ws (lp ws w) s)).mpr (List.mem_map.mpr ⟨s, q4, rfl⟩))
      refine ⟨b :: s', (mem_S _ w hb).mpr ⟨e', s', by omega, q2', ?_, hs', rfl⟩, ?_⟩
      · unfold fit at q3 ⊢; rw [room_drop]; exact q3
      · rw [rsum_cons ws w q2 q4, rsum_cons _ w q2' hs', es, hlp]
theorem due_at {ws : List Int} (h : Wd ws) (w : Int) {k : Nat} (hk : k < ws.length) : Wd (ws.drop k) ∧ minL ((every (ws.drop k) w).map (rsum (ws.drop k) (lp (ws.drop k) w))) = (ls ws w k).map (·.1) := by
  have hd : Wd (ws.drop k) := ⟨by simp; omega, by have := h.few; simp; omega, fun x hx => h.all x (List.mem_of_mem_drop hx)⟩
  refine ⟨hd, ?_⟩
  rw [ls_S ws w k (by omega), minL_fst (rsum ws (lp ws w)) (fun r => r)]
  refine minL_congr fun p => ?_
  have q := prices_drop w (by omega : k ≤ ws.length) 0 (Nat.zero_le _) p
  rw [Nat.add_zero] at q
  rw [← q, List.mem_map, List.mem_map]
  exact ⟨fun ⟨r, a, b⟩ => ⟨r, (mem_every hd w r).mp a, b⟩, fun ⟨r, a, b⟩ => ⟨r, (mem_every hd w r).mpr a, b⟩⟩
end Lf

namespace Lf
open PySem PySem.Spec PyProof.Rows L2 PV
open EV (enc)
abbrev E12 (is : List Int) (h : Val) (s2 s3 s4 s5 s6 s7 s8 s9 s10 : PV.Slot) : EnvD := [.frz (.scr is), .own h, s2, s3, s4, s5, s6, s7, s8, s9, s10, .emp]
def l76A : SD := (sAsg (dTup [(dCallH F__law_words 1 [(dC (.int 7))]), (dBin oAdd (dC (.int 1)) (dCallH F__law_draw 1 [(dC (.int 24))]))]) (gT 2 (gsCons (gN 7) (gsCons (gN 8) gsNil))))
def l76B : SD := (sOwn (dCB F__law_settings [(dVar 7), (dVar 8)]) 3)
def l76C : SD := (sOwn (dCB F_least_ragged [(dVar 7), (dVar 8)]) 4)
def l76D : SD := (sIf (dTB (dBin oNe (dBin oIs (dVar 4) (dC .non)) (dBin oEq (dVar 3) (dLst [])))) (sRet (dC (.bl false))) sNil)
def l76E1 : SD := (sSeq (sIf (dTB (dBin oNe (dCBS oTuple 4) (dCB (on1 (oBest minV)) [(dLc [11] (iVal (dVar 3)) (gN 11) dYes (dTup [(dCB F__law_price [(dVar 7), (dVar 8), (dVar 11)]), (dVar 11)]))]))) (sRet (dC (.bl false))) sNil)
    (sSeq (sIf (dTB (dBin oNe (dCB F_price_of [(dVar 7), (dVar 8), (dVar 9)]) (dCB F__law_price [(dVar 7), (dVar 8), (dVar 9)]))) (sRet (dC (.bl false))) sNil)
    (sIf (dTB (dBin oGt (dIxS 4 (dC (.int 0))) (dCB F_price_of [(dVar 7), (dVar 8), (dBin oIx (dCB F_set_lines [(dVar 7), (dVar 8)]) (dC (.int 1)))]))) (sRet (dC (.bl false))) sNil)))
def l76E : SD := (sIf (dTB (dBin oNe (dVar 3) (dLst []))) (sSeq (sOwn (dCallH F__law_some 1 [(dVar 3)]) 9) l76E1) sNil)
def l76F : SD := (sOwn (dLst []) 5)
def l76G1 : SD := (sSeq (sOwn (dCB F__law_settings [(dSl (dVar 7) (pSome (dVar 6)) pNone), (dVar 8)]) 10)
    (sExpr (dApp 5 (dIf (dTB (dBin oNe (dVar 10) (dLst []))) (dCB (on1 (oBest minV)) [(dLc [11] (iVal (dVar 10)) (gN 11) dYes (dCB F__law_price [(dSl (dVar 7) (pSome (dVar 6)) pNone), (dVar 8), (dVar 11)]))]) (dC .non)))))
def l76G : SD := (sFor (iRng [(dCBS oLen 7)]) (gN 6) l76G1)
def l76H : SD := (sIf (dTB (dBin oNe (dCB (on1 oList) [(dCB F_prices_of [(dVar 7), (dVar 8)])]) (dBin oAdd (dVar 5) (dLst [(dC (.int 0))])))) (sRet (dC (.bl false))) sNil)
def turn76 : SD := sSeq l76A (sSeq l76B (sSeq l76C (sSeq l76D (sSeq l76E (sSeq l76F (sSeq l76G l76H))))))
section
variable (is : List Int) (h : Val) (s2 s3 s4 s5 s6 s7 s8 s9 s10 : PV.Slot)
theorem l76A_ok (g : GH h) : ∃ h' ws w, l76A (E12 is h s2 s3 s4 s5 s6 s7 s8 s9 s10) = .ok (.nx (E12 is h' s2 s3 s4 s5 s6 (.frz (.tup (ws.map enc))) (.frz (.int w)) s9 s10)) ∧ GH h' ∧ Wd ws ∧ 1 ≤ w ∧ w ≤ 24 := by
  obtain ⟨ws, h1, e1, q1, q2, g1⟩ := law_words_ok g (most := 7) (by decide) (by decide)
  obtain ⟨d, h2, e2, q3, g2⟩ := drawI g1 (many := 24) (by decide) (by decide)
  refine ⟨h2, ws, 1 + d, ?_, g2, q1, by omega, by omega⟩
  unfold l76A
  simp [e1, e2]
variable {ws : List Int} {w : Int} (hW : Wd ws) (w1 : 1 ≤ w) (w2 : w ≤ 30)
include hW w1 w2
theorem l76D_ok : l76D (E12 is h s2 (.own (.lst ((every ws w).map enc))) (.frz (enc (ls ws w 0))) s5 s6 s7 s8 s9 s10) = .ok (.nx (E12 is h s2 (.frz (.lst ((every ws w).map enc))) (.frz (enc (ls ws w 0))) s5 s6 s7 s8 s9 s10)) := by
  have e0 := oEq_lnil (every ws w) (by decide)
  have e1 := ls_S ws w 0 (Nat.zero_le _)
  have q : isNon (enc (ls ws w 0)) = (every ws w).isEmpty := by
    have hp := (every_perm ws w hW.one).length_eq
    cases c : ls ws w 0 with
    | none =>
      rw [c] at e1
      have := minL_none.mp e1.symm
      rw [List.map_eq_nil_iff] at this
      rw [this] at hp
      rw [List.length_eq_zero_iff.mp hp]; rfl
    | some m =>
      rw [c] at e1
      have h1 := (minL_some.mp e1.symm).1
      obtain ⟨r, hr, _⟩ := List.mem_map.mp h1
      have : 0 < (every ws w).length := by rw [hp]; exact List.length_pos_of_mem hr
      cases c2 : every ws w with
      | nil => rw [c2] at this; simp at this
      | cons _ _ => rfl
  unfold l76D
  generalize every ws w = ev at *
  simp [e0, q]
theorem ev_min : (every ws w ≠ []) → ∃ m, ls ws w 0 = some m ∧ minL ((every ws w).map fun r => (rsum ws (lp ws w) r, r)) = some m := fun hne => by
  have e1 := ls_S ws w 0 (Nat.zero_le _)
  have e2 : minL ((every ws w).map fun r => (rsum ws (lp ws w) r, r)) = ls ws w 0 := by
    rw [e1]
    refine minL_congr fun a => ?_
    rw [List.mem_map, List.mem_map]
    exact ⟨fun ⟨r, a, b⟩ => ⟨r, (mem_every hW w r).mp a, b⟩, fun ⟨r, a, b⟩ => ⟨r, (mem_every hW w r).mpr a, b⟩⟩
  cases c : ls ws w 0 with
  | none =>
    rw [c, minL_none, List.map_eq_nil_iff] at e2
    exact absurd e2 hne
  | some m => exact ⟨m, rfl, by rw [e2, c]⟩
theorem l76E1_ok {r : List Nat} (hr : r ∈ every ws w) : l76E1 (E12 is h s2 (.frz (.lst ((every ws w).map enc))) (.frz (enc (ls ws w 0))) s5 s6 (.frz (.tup (ws.map enc))) (.frz (.int w)) (.frz (.tup (r.map enc))) s10) = .ok (.nx (E12 is h s2 (.frz (.lst ((every ws w).map enc))) (.frz (enc (ls ws w 0))) s5 s6 (.frz (.tup (ws.map enc))) (.frz (.int w)) (.frz (.tup (r.map enc))) s10)) := by
  have hne : every ws w ≠ [] := fun z => by rw [z] at hr; cases hr
  obtain ⟨m, em, e2⟩ := ev_min hW w1 w2 hne
  have hev := every_len hW w
  have hS := (mem_every hW w r).mp hr
  have hm := min_map _ (by decide) _ e2
  have pr := price_of_S hW w1 w2 hS
  have lpr := law_price_ok hW w1 w2 hS
  have hfit := S_fits hW hS
  have sl := set_lines_fit hW w1 w2 hfit
  have hfS := fullS_mem hW.one hfit
  have pf := price_of_S hW w1 w2 hfS
  have i1 : oIx (.tup [.str "lines", .tup ((fullS ws w).map enc)]) (.int 1) = .ok (.tup ((fullS ws w).map enc), false) := rfl
  have i0 : oIx (.tup [.int m.1, .tup (m.2.map enc)]) (.int 0) = .ok (.int m.1, false) := rfl
  have nlt : ¬ rsum ws (lp ws w) (fullS ws w) < m.1 := fun c => by
    have := (minL_some.mp e2).2 (rsum ws (lp ws w) (fullS ws w), fullS ws w) (List.mem_map.mpr ⟨_, (mem_every hW w _).mpr hfS, rfl⟩)
    have this : (if rsum ws (lp ws w) (fullS ws w) = m.1 then _ else decide (rsum ws (lp ws w) (fullS ws w) < m.1)) = false := this
    rw [if_neg (by omega), decide_eq_true c] at this
    cases this
  have m1 := lcM (own := [11]) (it := (iVal (dVar 3))) (g := (gN 11)) (t := dYes) (elt := (dTup [(dCB F__law_price [(dVar 7), (dVar 8), (dVar 11)]), (dVar 11)]))
    (env := E12 is h s2 (.frz (.lst ((every ws w).map enc))) (.frz (enc (ls ws w 0))) s5 s6 (.frz (.tup (ws.map enc))) (.frz (.int w)) (.frz (.tup (r.map enc))) s10)
    (every ws w) enc (fun r => enc (rsum ws (lp ws w) r, r)) (by simp) (szl (by omega)) (fun x hx => by simp [law_price_ok hW w1 w2 ((mem_every hW w x).mp hx)]) (by simp) (by simp)
  rw [show ((every ws w).map fun r => (enc (rsum ws (lp ws w) r, r) : Val)) = ((every ws w).map fun r => (rsum ws (lp ws w) r, r)).map enc by rw [List.map_map]; rfl] at m1
  have ne := oNe_e m m (by decide)
  generalize ((every ws w).map fun r => (rsum ws (lp ws w) r, r)) = M at *
  rw [em] at m1 ⊢
  simp at m1 hm ne
  unfold l76E1
  simp [m1, hm, ne, pr, lpr, sl, i1, i0, pf, nlt]
theorem l76E_ok (g : GH h) : ∃ h' t9, l76E (E12 is h s2 (.frz (.lst ((every ws w).map enc))) (.frz (enc (ls ws w 0))) s5 s6 (.frz (.tup (ws.map enc))) (.frz (.int w)) s9 s10) = .ok (.nx (E12 is h' s2 (.frz (.lst ((every ws w).map enc))) (.frz (enc (ls ws w 0))) s5 s6 (.frz (.tup (ws.map enc))) (.frz (.int w)) t9 s10)) ∧ GH h' := by
  have e0 := oNe_lnil (every ws w) (by decide)
  unfold l76E
  by_cases c : every ws w = []
  · refine ⟨h, s9, ?_, g⟩
    rw [c] at e0 ⊢
    simp at e0
    simp [e0]
  · obtain ⟨r, h2, e2, hr, g2⟩ := law_some_l g (every ws w) c (by have := every_len hW w; omega)
    have e3 := l76E1_ok is h2 s2 s5 s6 s10 hW w1 w2 hr
    have c' : (every ws w).isEmpty = false := by simpa using c
    rw [c'] at e0
    generalize every ws w = ev at *
    refine ⟨h2, .frz (.tup (r.map enc)), ?_, g2⟩
    simp at e2 e3
    simp [e0, e2, e3]
def dueT (ws : List Int) (w : Int) (k : Nat) : Option Int := (ls ws w k).map (·.1)
theorem l76G1_ok {k : Nat} (hk : k < ws.length) (acc : List Val) (ha : acc.length ≤ 20) : ∃ t10, l76G1 (E12 is h s2 s3 s4 (.own (.lst acc)) (.frz (.int (k : Int))) (.frz (.tup (ws.map enc))) (.frz (.int w)) s9 s10) = .ok (.nx (E12 is h s2 s3 s4 (.own (.lst (acc ++ [enc (dueT ws w k)]))) (.frz (.int (k : Int))) (.frz (.tup (ws.map enc))) (.frz (.int w)) s9 t10)) := by
  obtain ⟨hd, due⟩ := due_at hW w hk
  have es := law_settings_ok hd w
  have hev := every_len hd w
  have e0 := oNe_lnil (every (ws.drop k) w) (by decide)
  have ecut : cut ws (some (k : Int)) none = ws.drop k := by
    unfold cut
    rw [HT.sIx_nat, Nat.min_eq_left (by omega)]
    show (ws.drop k).take (ws.length - k) = _
    exact List.take_of_length_le (by simp)
  unfold l76G1
  refine ⟨.frz (.lst ((every (ws.drop k) w).map enc)), ?_⟩
  have m1 := lcM (own := [11]) (it := (iVal (dVar 10))) (g := (gN 11)) (t := dYes) (elt := (dCB F__law_price [(dSl (dVar 7) (pSome (dVar 6)) pNone), (dVar 8), (dVar 11)]))
    (env := E12 is h s2 s3 s4 (.own (.lst acc)) (.frz (.int (k : Int))) (.frz (.tup (ws.map enc))) (.frz (.int w)) s9 (.frz (.lst ((every (ws.drop k) w).map enc))))
    (every (ws.drop k) w) enc (fun r => enc (rsum (ws.drop k) (lp (ws.drop k) w) r)) (by simp) (szl (by omega)) (fun x hx => by
      have q := law_price_ok hd w1 w2 ((mem_every hd w x).mp hx)
      simp [ecut]
      simp at q
      simp [q]) (by simp) (by simp)
  rw [show ((every (ws.drop k) w).map fun r => (enc (rsum (ws.drop k) (lp (ws.drop k) w) r) : Val)) = ((every (ws.drop k) w).map (rsum (ws.drop k) (lp (ws.drop k) w))).map enc by rw [List.map_map]; rfl] at m1
  rw [show (ls ws w k).map (·.1) = dueT ws w k from rfl] at due
  have hap : acc.length < sizeLine := by have := szl (n := acc.length + 1) (by omega); omega
  generalize dueT ws w k = D at *
  by_cases c : every (ws.drop k) w = []
  · rw [c] at e0 es due ⊢
    have : D = none := by rw [← due]; rfl
    subst this
    simp at es e0
    simp [ecut, es, e0, hap]
  · have c' : (every (ws.drop k) w).isEmpty = false := by simpa using c
    rw [c'] at e0
    obtain ⟨v, rfl⟩ : ∃ v, D = some v := by
      cases D with
      | some v => exact ⟨v, rfl⟩
      | none => rw [minL_none, List.map_eq_nil_iff] at due; exact absurd due c
    have hm := min_map _ (by decide) _ due
    generalize ((every (ws.drop k) w).map (rsum (ws.drop k) (lp (ws.drop k) w))) = M at *
    generalize every (ws.drop k) w = ev at *
    simp at es hm
    simp [ecut, es, e0, m1, hm, hap]
theorem l76G_ok : ∃ t6 t10, l76G (E12 is h s2 s3 s4 (.own (.lst [])) s6 (.frz (.tup (ws.map enc))) (.frz (.int w)) s9 s10) = .ok (.nx (E12 is h s2 s3 s4 (.own (.lst (((List.range ws.length).map (dueT ws w)).map enc))) t6 (.frz (.tup (ws.map enc))) (.frz (.int w)) s9 t10)) := by
  have hf := hW.few
  have hr := range_1 ws.length (by omega)
  have key := for_inv (g := gN 6) (b := l76G1) (Q := fun r => ∃ t6 t10, r = .nx (E12 is h s2 s3 s4 (.own (.lst (((List.range ws.length).map (dueT ws w)).map enc))) t6 (.frz (.tup (ws.map enc))) (.frz (.int w)) s9 t10)) ((List.range ws.length).map enc)
    (fun i env => ∃ t6 t10, env = E12 is h s2 s3 s4 (.own (.lst (((List.range i).map (dueT ws w)).map enc))) t6 (.frz (.tup (ws.map enc))) (.frz (.int w)) s9 t10)
    (E12 is h s2 s3 s4 (.own (.lst [])) s6 (.frz (.tup (ws.map enc))) (.frz (.int w)) s9 s10) ⟨_, _, rfl⟩ ?_ ?_
  · obtain ⟨r, k1, t6, t10, rfl⟩ := key.ex
    refine ⟨t6, t10, ?_⟩
    unfold l76G
    simp [hr, k1]
  · rintro i hi env ⟨t6, t10, rfl⟩
    have hi' : i < ws.length := by simpa using hi
    obtain ⟨u, e⟩ := l76G1_ok is h s2 s3 s4 s9 t10 hW w1 w2 hi' (((List.range i).map (dueT ws w)).map enc) (by simp; omega)
    rw [show ((List.range ws.length).map (enc : Nat → Val))[i] = .int (i : Int) by simp]
    rw [show gN 6 (.int (i : Int)) (E12 is h s2 s3 s4 (.own (.lst (((List.range i).map (dueT ws w)).map enc))) t6 (.frz (.tup (ws.map enc))) (.frz (.int w)) s9 t10) = .ok (E12 is h s2 s3 s4 (.own (.lst (((List.range i).map (dueT ws w)).map enc))) (.frz (.int (i : Int))) (.frz (.tup (ws.map enc))) (.frz (.int w)) s9 t10) from rfl, res_ok_bind, e]
    exact ⟨.frz (.int (i : Int)), u, by rw [List.range_succ]; simp⟩
  · rintro env ⟨t6, t10, rfl⟩
    exact ⟨t6, t10, by simp⟩
theorem l76H_ok : ∃ t5, l76H (E12 is h s2 s3 s4 (.own (.lst (((List.range ws.length).map (dueT ws w)).map enc))) s6 (.frz (.tup (ws.map enc))) (.frz (.int w)) s9 s10) = .ok (.nx (E12 is h s2 s3 s4 t5 s6 (.frz (.tup (ws.map enc))) (.frz (.int w)) s9 s10)) := by
  have hf := hW.few
  have e2 := prices_of_ok hW w1 w2
  have eT : (List.range (ws.length + 1)).map (fun b => (ls ws w b).map (·.1)) = (List.range ws.length).map (dueT ws w) ++ [some 0] := by
    rw [List.range_succ, List.map_append]
    simp only [List.map_cons, List.map_nil, ls_top]
    rfl
  rw [eT] at e2
  have hlen : ((List.range ws.length).map (dueT ws w)).length ≤ 14 := by simpa using hf
  generalize (List.range ws.length).map (dueT ws w) = D at *
  have hcat := oAdd_ll (D.map enc) [.int 0] (by have := szl (n := D.length + 1) (by omega); simpa using this)
  have hne := oNe_ll (D ++ [some (0 : Int)]) (D ++ [some 0]) (by decide)
  unfold l76H
  refine ⟨.frz (.lst (D.map enc)), ?_⟩
  simp at e2 hne hcat
  simp [e2, hcat, hne]
end
theorem turn76_all (is : List Int) (h : Val) (g : GH h) (s2 s3 s4 s5 s6 s7 s8 s9 s10 : PV.Slot) : ∃ h' t3 t4 t5 t6 t7 t8 t9 t10, turn76 (E12 is h s2 s3 s4 s5 s6 s7 s8 s9 s10) = .ok (.nx (E12 is h' s2 t3 t4 t5 t6 t7 t8 t9 t10)) ∧ GH h' := by
  obtain ⟨h1, ws, w, eA, g1, hW, w1, w2'⟩ := l76A_ok is h s2 s3 s4 s5 s6 s7 s8 s9 s10 g
  have w2 : w ≤ 30 := by omega
  have eB : l76B (E12 is h1 s2 s3 s4 s5 s6 (.frz (.tup (ws.map enc))) (.frz (.int w)) s9 s10) = .ok (.nx (E12 is h1 s2 (.own (.lst ((every ws w).map enc))) s4 s5 s6 (.frz (.tup (ws.map enc))) (.frz (.int w)) s9 s10)) := by
    have := law_settings_ok hW w
    unfold l76B
    simp [this]
  have eC : l76C (E12 is h1 s2 (.own (.lst ((every ws w).map enc))) s4 s5 s6 (.frz (.tup (ws.map enc))) (.frz (.int w)) s9 s10) = .ok (.nx (E12 is h1 s2 (.own (.lst ((every ws w).map enc))) (.frz (enc (ls ws w 0))) s5 s6 (.frz (.tup (ws.map enc))) (.frz (.int w)) s9 s10)) := by
    have := least_ragged_ok hW w1 w2
    unfold l76C
    simp [this]
  have eD := l76D_ok is h1 s2 s5 s6 (.frz (.tup (ws.map enc))) (.frz (.int w)) s9 s10 hW w1 w2
  obtain ⟨h2, t9, eE, g2⟩ := l76E_ok is h1 s2 s5 s6 s9 s10 hW w1 w2 g1
  have eF : l76F (E12 is h2 s2 (.frz (.lst ((every ws w).map enc))) (.frz (enc (ls ws w 0))) s5 s6 (.frz (.tup (ws.map enc))) (.frz (.int w)) t9 s10) = .ok (.nx (E12 is h2 s2 (.frz (.lst ((every ws w).map enc))) (.frz (enc (ls ws w 0))) (.own (.lst [])) s6 (.frz (.tup (ws.map enc))) (.frz (.int w)) t9 s10)) := rfl
  obtain ⟨t6, t10, eG⟩ := l76G_ok is h2 s2 (.frz (.lst ((every ws w).map enc))) (.frz (enc (ls ws w 0))) s6 t9 s10 hW w1 w2
  obtain ⟨t5, eH⟩ := l76H_ok is h2 s2 (.frz (.lst ((every ws w).map enc))) (.frz (enc (ls ws w 0))) t6 t9 t10 hW w1 w2
  exact ⟨h2, _, _, _, _, _, _, _, _, seq_ok eA (seq_ok eB (seq_ok eC (seq_ok eD (seq_ok eE (seq_ok eF (seq_ok eG eH)))))), g2⟩
/-! ### the law -/
theorem law76 (is : List Int) (hl : is.length ≤ 63) : ∃ o, F_law_k76 [.scr is] = .ok (.bl true, o) := by
  refine ⟨false, ?_⟩
  obtain ⟨h0, e0, g0⟩ := law_hand_ok is hl
  have hr := range_1 5 (by decide)
  have key := for_inv (g := gN 2) (b := turn76) (Q := fun r => ∃ h' t2 t3 t4 t5 t6 t7 t8 t9 t10, r = .nx (E12 is h' t2 t3 t4 t5 t6 t7 t8 t9 t10)) ((List.range 5).map enc)
    (fun _ env => ∃ h' t2 t3 t4 t5 t6 t7 t8 t9 t10, env = E12 is h' t2 t3 t4 t5 t6 t7 t8 t9 t10 ∧ GH h')
    (E12 is h0 .emp .emp .emp .emp .emp .emp .emp .emp .emp) ⟨h0, _, _, _, _, _, _, _, _, _, rfl, g0⟩ ?_ ?_
  · obtain ⟨r, k1, h', t2, t3, t4, t5, t6, t7, t8, t9, t10, rfl⟩ := key.ex
    have c1 : F_price_of [.tup [.int 3, .int 2, .int 2, .int 5], .int 6, .tup [.int 0, .int 1, .int 3]] = .ok (.int 10, false) := isRes_eq (by decide +kernel)
    have c2 : F_price_of [.tup [.int 3, .int 2, .int 2, .int 5], .int 6, .tup [.int 0, .int 2, .int 3]] = .ok (.int 16, false) := isRes_eq (by decide +kernel)
    have c3 : F_least_ragged [.tup [.int 3, .int 2, .int 2, .int 5], .int 6] = .ok (.tup [.int 10, .tup [.int 0, .int 1, .int 3]], false) := isRes_eq (by decide +kernel)
    have c4 : F_least_ragged [.tup [.int 7], .int 6] = .ok (.non, false) := isRes_eq (by decide +kernel)
    have c5 : F_prices_of [.tup [.int 3, .int 2, .int 2, .int 5], .int 6] = .ok (.tup [.int 10, .int 1, .int 16, .int 0, .int 0], false) := isRes_eq (by decide +kernel)
    have c6 : F_prices_of [.tup [.int 7, .int 3], .int 6] = .ok (.tup [.non, .int 0, .int 0], false) := isRes_eq (by decide +kernel)
    have n1 : oNe (.tup [.int 10, .tup [.int 0, .int 1, .int 3]]) (.tup [.int 10, .tup [.int 0, .int 1, .int 3]]) = .ok (.bl false, false) := isRes_eq (by decide +kernel)
    have n2 : oNe (.tup [.int 10, .int 1, .int 16, .int 0, .int 0]) (.tup [.int 10, .int 1, .int 16, .int 0, .int 0]) = .ok (.bl false, false) := isRes_eq (by decide +kernel)
    have n3 : oNe (.tup [.non, .int 0, .int 0]) (.tup [.non, .int 0, .int 0]) = .ok (.bl false, false) := isRes_eq (by decide +kernel)
    have hd : d_law_k76 = sSeq (sOwn (dCB F__law_hand [(dVar 0)]) 1) (sSeq _ (sSeq _ (sSeq _ (sSeq _ (sSeq _ (sSeq _ (sSeq (sFor (iRng [(dC (.int 5))]) (gN 2) turn76) (sRet (dC (.bl true)))))))))) := rfl
    unfold F_law_k76 runF
    rw [hd]
    simp at hr
    simp [e0, c1, c2, c3, c4, c5, c6, n1, n2, n3, hr, k1]
  · rintro i hi env ⟨h', t2, t3, t4, t5, t6, t7, t8, t9, t10, rfl, g⟩
    rw [List.getElem_map]
    obtain ⟨h2, u3, u4, u5, u6, u7, u8, u9, u10, e, g2⟩ := turn76_all is h' g (.frz (enc (List.range 5)[i])) t3 t4 t5 t6 t7 t8 t9 t10
    generalize (List.range 5)[i] = j at e
    rw [show gN 2 (enc j) (E12 is h' t2 t3 t4 t5 t6 t7 t8 t9 t10) = .ok (E12 is h' (.frz (enc j)) t3 t4 t5 t6 t7 t8 t9 t10) from rfl, res_ok_bind, e]
    exact ⟨_, _, _, _, _, _, _, _, _, _, rfl, g2⟩
  · rintro env ⟨h', t2, t3, t4, t5, t6, t7, t8, t9, t10, rfl, g⟩
    exact ⟨_, _, _, _, _, _, _, _, _, _, rfl⟩
end Lf

namespace Lf
open PySem PySem.Spec PyProof.Rows L2 PV
open PySem.W (minD maxD dataLt)
/-- line_gaps(words, w, begin, end): 0 words 1 w 2 begin 3 end 4 many 5 room 6 gap -/
def d_line_gaps : SD := (sSeq (sOwn (dBin oSub (dBin oSub (dVar 3) (dVar 2)) (dC (.int 1))) 4)
    (sSeq (sIf (dTB (dBin oEq (dVar 4) (dC (.int 0)))) (sRet (dTup [])) sNil)
    (sSeq (sIf (dTB (dBin oEq (dVar 3) (dCBS oLen 0))) (sRet (dBin oMul (dTup [(dC (.int 1))]) (dVar 4))) sNil)
    (sSeq (sOwn (dCB F_room_of [(dVar 0), (dVar 1), (dVar 2), (dVar 3)]) 5)
    (sRet (dCB (on1 oTuple) [(dLc [6] (iRng [(dVar 4)]) (gN 6) dYes (dBin oAdd (dBin oAdd (dC (.int 1)) (dBin oDiv (dVar 5) (dVar 4))) (dCB (on1 oInt) [(dBin oLt (dVar 6) (dBin oMod (dVar 5) (dVar 4)))])))]))))))
def F_line_gaps : Fn := runF 7 4 d_line_gaps
/-- all_gaps(words, w, begins): 0 words 1 w 2 begins 3 begin 4 end -/
def d_all_gaps : SD := (sRet (dLc [3, 4] (iVal (dCB F_lines_of [(dVar 0), (dVar 2)])) (gT 2 (gsCons (gN 3) (gsCons (gN 4) gsNil))) dYes (dCB F_line_gaps [(dVar 0), (dVar 1), (dVar 3), (dVar 4)])))
def F_all_gaps : Fn := runF 5 3 d_all_gaps
/-- gaps_of(words, w, begins): 0 words 1 w 2 begins -/
def d_gaps_of : SD := (sSeq (sExpr (dCB F_check_setting [(dVar 0), (dVar 1), (dVar 2)]))
    (sRet (dCB (on1 oTuple) [(dCB F_all_gaps [(dVar 0), (dVar 1), (dVar 2)])])))
def F_gaps_of : Fn := runF 3 3 d_gaps_of
/-- widest_gap(words, w, begins): 0 words 1 w 2 begins 3 gaps -/
def d_widest_gap : SD := (sSeq (sExpr (dCB F_check_setting [(dVar 0), (dVar 1), (dVar 2)]))
    (sRet (dCB (on1 (oBest maxV)) [(dBin oAdd (dLst [(dC (.int 0))]) (dLc [3] (iVal (dCB F_all_gaps [(dVar 0), (dVar 1), (dVar 2)])) (gN 3) (dTB (dBin oGt (dCBS oLen 3) (dC (.int 0)))) (dCBS (oBest maxV) 3)))])))
def F_widest_gap : Fn := runF 4 3 d_widest_gap
/-- calmest(words, w): 0 words 1 w 2 most 3 found 4 begin 5 some 6 end -/
def d_calmest : SD := (sSeq (sExpr (dCB F_check_page [(dVar 0), (dVar 1)]))
    (sSeq (sIf (dTB (dBin oGt (dCBS (oBest maxV) 0) (dVar 1))) (sRet (dC .non)) sNil)
    (sSeq (sFor (iRng [(dBin oAdd (dC (.int 30)) (dC (.int 1)))]) (gN 2) (sSeq (sOwn (dBin oAdd (dBin oMul (dLst [(dC .non)]) (dCBS oLen 0)) (dLst [(dTup [])])) 3)
    (sSeq (sFor (iRng [(dBin oSub (dCBS oLen 0) (dC (.int 1))), (dUn oNeg (dC (.int 1))), (dUn oNeg (dC (.int 1)))]) (gN 4) (sSeq (sOwn (dLst []) 5)
    (sSeq (sFor (iRng [(dBin oAdd (dVar 4) (dC (.int 1))), (dBin oAdd (dCBS oLen 0) (dC (.int 1)))]) (gN 6) (sIf (dAndT (dTB (dBin oIsNot (dIxS 3 (dVar 6)) (dC .non))) (dTB (dBin oGe (dCB F_room_of [(dVar 0), (dVar 1), (dVar 4), (dVar 6)]) (dC (.int 0))))) (sIf (dTB (dBin oLe (dCB (on1 (oBest maxV)) [(dBin oAdd (dTup [(dC (.int 0))]) (dCB F_line_gaps [(dVar 0), (dVar 1), (dVar 4), (dVar 6)]))]) (dVar 2))) (sExpr (dApp 5 (dBin oAdd (dTup [(dVar 4)]) (dIxS 3 (dVar 6))))) sNil) sNil))
    (sSet 3 (dVar 4) (dIf (dTB (dBin oGt (dCBS oLen 5) (dC (.int 0)))) (dCBS (oBest minV) 5) (dC .non))))))
    (sIf (dTB (dBin oIsNot (dIxS 3 (dC (.int 0))) (dC .non))) (sRet (dTup [(dVar 2), (dIxS 3 (dC (.int 0)))])) sNil))))
    (sRet (dC .non)))))
def F_calmest : Fn := runF 7 2 d_calmest
/-- _law_gaps(words, w, begins): 0 words 1 w 2 begins 3 found 4 first 5 behind 6 many 7 blanks 8 gap -/
def d__law_gaps : SD := (sSeq (sOwn (dLst []) 3)
    (sSeq (sFor (iOf zipVs [(dVar 2), (dBin oAdd (dSl (dVar 2) (pSome (dC (.int 1))) pNone) (dTup [(dCBS oLen 0)]))]) (gT 2 (gsCons (gN 4) (gsCons (gN 5) gsNil))) (sSeq (sAsg (dTup [(dBin oSub (dBin oSub (dVar 5) (dVar 4)) (dC (.int 1))), (dBin oSub (dVar 1) (dCB (on1 oSum) [(dSl (dVar 0) (pSome (dVar 4)) (pSome (dVar 5)))]))]) (gT 2 (gsCons (gN 6) (gsCons (gN 7) gsNil))))
    (sIf (dTB (dBin oEq (dVar 5) (dCBS oLen 0))) (sExpr (dApp 3 (dBin oMul (dTup [(dC (.int 1))]) (dVar 6)))) (sExpr (dApp 3 (dCB (on1 oTuple) [(dLc [8] (iRng [(dVar 6)]) (gN 8) dYes (dBin oAdd (dBin oDiv (dVar 7) (dVar 6)) (dCB (on1 oInt) [(dBin oLt (dVar 8) (dBin oMod (dCB (on1 oInt) [(dVar 7)]) (dVar 6)))])))]))))))
    (sRet (dCBS oTuple 3))))
def F__law_gaps : Fn := runF 9 3 d__law_gaps
/-- _law_widest(words, w, begins): 0 words 1 w 2 begins 3 row -/
def d__law_widest : SD := (sRet (dCB (on1 (oBest maxV)) [(dBin oAdd (dLst [(dC (.int 0))]) (dLc [3] (iVal (dCB F__law_gaps [(dVar 0), (dVar 1), (dVar 2)])) (gN 3) dYes (dCB (on1 (oBest maxV)) [(dBin oAdd (dLst [(dC (.int 0))]) (dCBS oList 3))])))]))
def F__law_widest : Fn := runF 4 3 d__law_widest
/-- law(script): 0 script 1 hand 2 turn 3 words 4 w 5 every 6 told 7 row 8 gaps_now 9 one -/
def d_law_k78 : SD := (sSeq (sOwn (dCB F__law_hand [(dVar 0)]) 1)
    (sSeq (sIf (dTB (dBin oNe (dCB F_gaps_of [(dTup [(dC (.int 1)), (dC (.int 1)), (dC (.int 1)), (dC (.int 5))]), (dC (.int 8)), (dTup [(dC (.int 0)), (dC (.int 3))])]) (dTup [(dTup [(dC (.int 3)), (dC (.int 2))]), (dTup [])]))) (sRet (dC (.bl false))) sNil)
    (sSeq (sIf (dTB (dBin oNe (dCB F_widest_gap [(dTup [(dC (.int 1)), (dC (.int 1)), (dC (.int 1)), (dC (.int 5))]), (dC (.int 8)), (dTup [(dC (.int 0)), (dC (.int 3))])]) (dC (.int 3)))) (sRet (dC (.bl false))) sNil)
    (sSeq (sIf (dTB (dBin oNe (dCB F_gaps_of [(dTup [(dC (.int 2)), (dC (.int 2))]), (dC (.int 9)), (dTup [(dC (.int 0))])]) (dTup [(dTup [(dC (.int 1))])]))) (sRet (dC (.bl false))) sNil)
    (sSeq (sIf (dTB (dBin oNe (dCB (on1 oTuple) [(dCB F_calmest [(dTup [(dC (.int 2)), (dC (.int 2))]), (dC (.int 9))])]) (dTup [(dC (.int 0)), (dTup [(dC (.int 0)), (dC (.int 1))])]))) (sRet (dC (.bl false))) sNil)
    (sSeq (sIf (dTB (dBin oIsNot (dCB F_calmest [(dTup [(dC (.int 9))]), (dC (.int 8))]) (dC .non))) (sRet (dC (.bl false))) sNil)
    (sSeq (sIf (dTB (dBin oNe (dCB F_widest_gap [(dTup [(dC (.int 2))]), (dC (.int 9)), (dTup [(dC (.int 0))])]) (dC (.int 0)))) (sRet (dC (.bl false))) sNil)
    (sSeq (sFor (iRng [(dC (.int 4))]) (gN 2) (sSeq (sAsg (dTup [(dCallH F__law_words 1 [(dC (.int 7))]), (dBin oAdd (dC (.int 1)) (dCallH F__law_draw 1 [(dC (.int 24))]))]) (gT 2 (gsCons (gN 3) (gsCons (gN 4) gsNil))))
    (sSeq (sPar 5 6 [(dCB F__law_settings [(dVar 3), (dVar 4)]), (dCB F_calmest [(dVar 3), (dVar 4)])])
    (sSeq (sIf (dTB (dBin oNe (dBin oIs (dVar 6) (dC .non)) (dBin oEq (dVar 5) (dLst [])))) (sRet (dC (.bl false))) sNil)
    (sIf (dTB (dBin oNe (dVar 5) (dLst []))) (sSeq (sOwn (dCallH F__law_some 1 [(dVar 5)]) 7)
    (sSeq (sIf (dTB (dBin oNe (dCB (on1 oTuple) [(dLc [8] (iVal (dCB F_gaps_of [(dVar 3), (dVar 4), (dVar 7)])) (gN 8) dYes (dCBS oTuple 8))]) (dCB F__law_gaps [(dVar 3), (dVar 4), (dVar 7)]))) (sRet (dC (.bl false))) sNil)
    (sSeq (sIf (dTB (dBin oNe (dCB F_widest_gap [(dVar 3), (dVar 4), (dVar 7)]) (dCB F__law_widest [(dVar 3), (dVar 4), (dVar 7)]))) (sRet (dC (.bl false))) sNil)
    (sIf (dTB (dBin oNe (dCBS oTuple 6) (dCB (on1 (oBest minV)) [(dLc [9] (iVal (dVar 5)) (gN 9) dYes (dTup [(dCB F__law_widest [(dVar 3), (dVar 4), (dVar 9)]), (dVar 9)]))]))) (sRet (dC (.bl false))) sNil)))) sNil)))))
    (sRet (dC (.bl true)))))))))))
def F_law_k78 : Fn := runF 10 1 d_law_k78
end Lf

namespace Lf
open PySem PySem.Spec PyProof.Rows L2 PV
open EV (enc)
/-! ### gaps of a line -/
def lg (ws : List Int) (w : Int) (b e : Nat) : List Int := if e - b - 1 = 0 then [] else if e = ws.length then List.replicate (e - b - 1) 1 else (List.range (e - b - 1)).map fun g : Nat => 1 + room ws w b e / ((e - b - 1 : Nat) : Int) + b2 (decide ((g : Int) < room ws w b e % ((e - b - 1 : Nat) : Int)))
/-- the widest of it, 0 for none -/
def mg (ws : List Int) (w : Int) (b e : Nat) : Int := (maxL ((0 : Int) :: lg ws w b e)).getD 0
theorem mg_max (ws : List Int) (w : Int) (b e : Nat) : maxL ((0 : Int) :: lg ws w b e) = some (mg ws w b e) := by
  unfold mg
  cases q : maxL ((0 : Int) :: lg ws w b e) with
  | none => rw [maxL_none] at q; cases q
  | some m => rfl
theorem seg_len {ws : List Int} {b e : Nat} (h : e ≤ ws.length) : (seg ws b e).length = e - b := by unfold seg; simp; omega
theorem lg_bnd {ws : List Int} (h : Wd ws) {w : Int} (w2 : w ≤ 30) {b e : Nat} (he : e ≤ ws.length) (hf : fit ws w b e = true) : ∀ x ∈ lg ws w b e, 1 ≤ x ∧ x ≤ 30 := fun x hx => by
  have q : 0 ≤ room ws w b e := of_decide_eq_true hf
  have r30 : room ws w b e + 2 ≤ 30 ∨ e - b - 1 = 0 := by
    by_cases c : e - b - 1 = 0
    · exact .inr c
    · left
      have hp : ∀ x ∈ ws, 1 ≤ x := fun x hx => (h.all x hx).1
      have e1 := seg_sum_split ws (b := b) (m := b + 1) (e := e) (by omega) (by omega)
      have e2 := seg_one (ws := ws) (b := b) (by omega)
      have e3 := seg_pos hp (b + 1) e
      have e4 := hp ws[b] (List.getElem_mem _)
      unfold room at q ⊢
      omega
  unfold lg at hx
  split at hx
  · cases hx
  · rename_i c
    rcases r30 with r30 | r30
    · split at hx
      · rw [List.mem_replicate] at hx; omega
      · obtain ⟨g, _, rfl⟩ := List.mem_map.mp hx
        have d0 : 0 ≤ room ws w b e / ((e - b - 1 : Nat) : Int) := Int.ediv_nonneg q (by omega)
        have d1 : room ws w b e / ((e - b - 1 : Nat) : Int) ≤ room ws w b e := Int.ediv_le_self _ q
        cases decide ((g : Int) < room ws w b e % ((e - b - 1 : Nat) : Int)) <;> simp [b2] <;> omega
    · exact absurd r30 c
theorem mg_bnd {ws : List Int} (h : Wd ws) {w : Int} (w2 : w ≤ 30) {b e : Nat} (he : e ≤ ws.length) (hf : fit ws w b e = true) : 0 ≤ mg ws w b e ∧ mg ws w b e ≤ 30 := by
  obtain ⟨h1, h2⟩ := maxL_some.mp (mg_max ws w b e)
  rcases List.mem_cons.mp h1 with q | q
  · rw [q]; omega
  · have := lg_bnd h w2 he hf _ q; omega
theorem lg_len {ws : List Int} (w : Int) (b e : Nat) : (lg ws w b e).length = e - b - 1 := by
  unfold lg
  split
  · rename_i c; rw [c]; rfl
  · split <;> simp
/-- the widest gap of a setting -/
def wid (ws : List Int) (w : Int) (r : List Nat) : Int := (maxL ((0 : Int) :: (lns ws.length r).map fun p => mg ws w p.1 p.2)).getD 0
theorem wid_max (ws : List Int) (w : Int) (r : List Nat) : maxL ((0 : Int) :: (lns ws.length r).map fun p => mg ws w p.1 p.2) = some (wid ws w r) := by
  unfold wid
  cases q : maxL ((0 : Int) :: (lns ws.length r).map fun p => mg ws w p.1 p.2) with
  | none => rw [maxL_none] at q; cases q
  | some m => rfl
theorem wid_le {ws : List Int} {w : Int} {r : List Nat} {m : Int} (h0 : 0 ≤ m) : wid ws w r ≤ m ↔ ∀ p ∈ lns ws.length r, mg ws w p.1 p.2 ≤ m := by
  obtain ⟨h1, h2⟩ := maxL_some.mp (wid_max ws w r)
  constructor
  · intro h p hp
    have := h2 _ (List.mem_cons_of_mem _ (List.mem_map.mpr ⟨p, hp, rfl⟩))
    have this : ¬ (wid ws w r < mg ws w p.1 p.2) := of_decide_eq_false this
    omega
  · intro h
    rcases List.mem_cons.mp h1 with q | q
    · rw [q]; exact h0
    · obtain ⟨p, hp, e⟩ := List.mem_map.mp q
      rw [← e]; exact h p hp
theorem wid_bnd {ws : List Int} (h : Wd ws) {w : Int} (w2 : w ≤ 30) {r : List Nat} (hr : r ∈ S ws w 0) : 0 ≤ wid ws w r ∧ wid ws w r ≤ 30 := by
  constructor
  · have := (maxL_some.mp (wid_max ws w r)).2 0 (by simp)
    have this : ¬ (wid ws w r < 0) := of_decide_eq_false this
    omega
  · refine (wid_le (by omega)).mpr fun p hp => ?_
    obtain ⟨_, _, _, _, h5⟩ := S0 h hr
    have := h5 p hp
    exact (mg_bnd h w2 this.2.1 this.2.2).2
/-! ### the least setting with no gap above m -/
section
variable (ws : List Int) (w m : Int)
def cmStep (b : Nat) (g : Nat → Option (List Nat)) : Option (List Nat) := minL (((nds ws b).filter fun e => (fit ws w b e && decide (mg ws w b e ≤ m)) && (g e).isSome).map fun e => b :: (g e).getD [])
def cm (b : Nat) : Option (List Nat) := back ws.length (some []) (cmStep ws w m) b
theorem cm_loc : ∀ (b : Nat) (g g' : Nat → Option (List Nat)), b < ws.length → (∀ e, b < e → e ≤ ws.length → g e = g' e) → cmStep ws w m b g = cmStep ws w m b g' := fun b g g' hb h => by
  unfold cmStep
  have h' : ∀ e ∈ nds ws b, g e = g' e := fun e he => by
    have := (mem_nds ws).mp he
    exact h e this.1 (this.2.1 hb)
  rw [List.filter_congr (q := fun e => (fit ws w b e && decide (mg ws w b e ≤ m)) && (g' e).isSome) fun e he => by rw [h' e he]]
  congr 1
  apply List.map_congr_left
  intro e he
  rw [h' e (List.mem_filter.mp he).1]
theorem cm_top : cm ws w m ws.length = some [] := back_top _ _ _ (Nat.le_refl _)
theorem cm_step {b : Nat} (h : b < ws.length) : cm ws w m b = cmStep ws w m b (cm ws w m) := back_step _ _ _ (cm_loc ws w m) h
def calmB (r : List Nat) : Bool := (lns ws.length r).all fun p => decide (mg ws w p.1 p.2 ≤ m)
theorem calmB_cons {b e : Nat} (he : e ≤ ws.length) {s : List Nat} (hs : s ∈ S ws w e) : calmB ws w m (b :: s) = (decide (mg ws w b e ≤ m) && calmB ws w m s) := by
  unfold calmB
  rw [lns, S_headD ws w he hs, List.all_cons]
theorem lt_cons (b : Nat) (p q : List Nat) : OV.lt (b :: p) (b :: q) = OV.lt p q := by
  show lexLt' OV.lt (b :: p) (b :: q) = lexLt' OV.lt p q
  simp [lexLt']
theorem cm_S : ∀ b, b ≤ ws.length → cm ws w m b = minL ((S ws w b).filter (calmB ws w m)) := down ws (by rw [cm_top, S_top]; rfl) fun b hb ih => by
  rw [cm_step ws w m hb]
  unfold cmStep
  cases e1 : minL ((S ws w b).filter (calmB ws w m)) with
  | none =>
    rw [minL_none, List.filter_eq_nil_iff] at e1
    rw [minL_none, List.map_eq_nil_iff, List.filter_eq_nil_iff]
    intro e he hc
    have he' := (mem_nds ws).mp he
    rw [Bool.and_eq_true, Bool.and_eq_true] at hc
    rw [ih e he'.1 (he'.2.1 hb)] at hc
    cases q : minL ((S ws w e).filter (calmB ws w m)) with
    | none => rw [q] at hc; simp at hc
    | some s =>
      have hs := List.mem_filter.mp (minL_some.mp q).1
      have := e1 (b :: s) ((mem_S ws w hb).mpr ⟨e, s, he'.1, he'.2.1 hb, hc.1.1, hs.1, rfl⟩)
      rw [calmB_cons ws w m (he'.2.1 hb) hs.1, hc.1.2, hs.2] at this
      exact this rfl
  | some r =>
    obtain ⟨h1, h2⟩ := minL_some.mp e1
    obtain ⟨h1, h1c⟩ := List.mem_filter.mp h1
    obtain ⟨e, s, be, en, hf, hs, rfl⟩ := (mem_S ws w hb).mp h1
    rw [calmB_cons ws w m en hs, Bool.and_eq_true] at h1c
    have key : ∀ e', b < e' → e' ≤ ws.length → fit ws w b e' = true → decide (mg ws w b e' ≤ m) = true → ∀ v, cm ws w m e' = some v → OV.lt (b :: v) (b :: s) = false := fun e' q1 q2 q3 q3' v q4 => by
      rw [ih e' q1 q2] at q4
      have hv := List.mem_filter.mp (minL_some.mp q4).1
      exact h2 (b :: v) (List.mem_filter.mpr ⟨(mem_S ws w hb).mpr ⟨e', v, q1, q2, q3, hv.1, rfl⟩, by rw [calmB_cons ws w m q2 hv.1, q3', hv.2]; rfl⟩)
    rw [minL_some]
    constructor
    · cases q : cm ws w m e with
      | none =>
        rw [ih e be en, minL_none, List.filter_eq_nil_iff] at q
        exact absurd h1c.2 (q s hs)
      | some v =>
        refine List.mem_map.mpr ⟨e, List.mem_filter.mpr ⟨(mem_nds ws).mpr ⟨be, fun _ => en, by omega⟩, by rw [hf, h1c.1, q]; rfl⟩, ?_⟩
        rw [q]
        have k1 := key e be en hf h1c.1 v q
        rw [ih e be en] at q
        have k2 := (minL_some.mp q).2 s (List.mem_filter.mpr ⟨hs, h1c.2⟩)
        rw [lt_cons] at k1
        show b :: v = b :: s
        rw [OV.tot _ _ k1 k2]
    · intro y hy
      obtain ⟨e', he', rfl⟩ := List.mem_map.mp hy
      obtain ⟨q1, q2⟩ := List.mem_filter.mp he'
      have q1 := (mem_nds ws).mp q1
      rw [Bool.and_eq_true, Bool.and_eq_true] at q2
      cases q : cm ws w m e' with
      | none => rw [q] at q2; simp at q2
      | some v => exact key e' q1.1 (q1.2.1 hb) q2.1.1 q2.1.2 v q
end
/-- the least of the widest gaps, and its setting -/
def calm (ws : List Int) (w : Int) : Option (Int × List Nat) := minL ((S ws w 0).map fun r => (wid ws w r, r))
theorem calm_at {ws : List Int} (h : Wd ws) {w : Int} (w2 : w ≤ 30) (hne : S ws w 0 ≠ []) : ∃ m r, calm ws w = some (m, r) ∧ 0 ≤ m ∧ m ≤ 30 ∧ cm ws w m 0 = some r ∧ (∀ u, 0 ≤ u → u < m → cm ws w u 0 = none) ∧ r ∈ S ws w 0 := by
  cases q : calm ws w with
  | none => unfold calm at q; rw [minL_none, List.map_eq_nil_iff] at q; exact absurd q hne
  | some p =>
    obtain ⟨m, r⟩ := p
    unfold calm at q
    obtain ⟨h1, h2⟩ := minL_some.mp q
    obtain ⟨r', hr, e⟩ := List.mem_map.mp h1
    injection e with e1 e2
    subst e2
    have hb := wid_bnd h w2 hr
    have hlow : ∀ s ∈ S ws w 0, m ≤ wid ws w s ∧ (wid ws w s = m → OV.lt s r' = false) := fun s hs => by
      have := h2 _ (List.mem_map.mpr ⟨s, hs, rfl⟩)
      have this : (if wid ws w s = m then lexLt' OV.lt s r' else decide (wid ws w s < m)) = false := this
      by_cases c : wid ws w s = m
      · rw [if_pos c] at this
        exact ⟨by omega, fun _ => this⟩
      · rw [if_neg c] at this
        have := of_decide_eq_false this
        exact ⟨by omega, fun z => absurd z c⟩
    have hcb : ∀ (u : Int), 0 ≤ u → ∀ s, calmB ws w u s = true ↔ wid ws w s ≤ u := fun u hu s => by
      rw [wid_le hu]
      unfold calmB
      rw [List.all_eq_true]
      exact ⟨fun z p hp => of_decide_eq_true (z p hp), fun z p hp => decide_eq_true (z p hp)⟩
    refine ⟨m, r', rfl, by omega, by omega, ?_, fun u hu hlt => ?_, hr⟩
    · rw [cm_S ws w m 0 (Nat.zero_le _), minL_some]
      refine ⟨List.mem_filter.mpr ⟨hr, (hcb m (by omega) r').mpr (by omega)⟩, fun y hy => ?_⟩
      obtain ⟨y1, y2⟩ := List.mem_filter.mp hy
      have y3 := (hcb m (by omega) y).mp y2
      have := hlow y y1
      exact this.2 (by omega)
    · rw [cm_S ws w u 0 (Nat.zero_le _), minL_none, List.filter_eq_nil_iff]
      intro s hs c
      have := (hcb u hu s).mp c
      have := (hlow s hs).1
      omega
end Lf

namespace Lf
open PySem PySem.Spec PyProof.Rows L2 PV
open EV (enc)
theorem line_gaps_ok {ws : List Int} (h : Wd ws) (w : Int) {b e : Nat} (hb : b < e) (he : e ≤ ws.length) : F_line_gaps [.tup (ws.map enc), .int w, .int b, .int e] = .ok (.tup ((lg ws w b e).map enc), false) := by
  have hf := h.few
  have hk : ((e : Int) - b - 1) = ((e - b - 1 : Nat) : Int) := by omega
  by_cases c : e - b - 1 = 0
  · have c' : ((e : Int) - b - 1 = 0) := by omega
    simp [F_line_gaps, runF, d_line_gaps, c', lg, c]
  · have c' : ¬ ((e : Int) - b - 1 = 0) := by omega
    by_cases c2 : e = ws.length
    · have hm := oMul_t1 (.int 1) (e - b - 1) (by omega)
      rw [← hk] at hm
      have c3 : ((e : Int) = (ws.length : Int)) := by omega
      rw [lg, if_neg c, if_pos c2, List.map_replicate]
      simp only [enc_int]
      subst c2
      simp [F_line_gaps, runF, d_line_gaps, c', hm]
    · have c3 : ¬ ((e : Int) = (ws.length : Int)) := by omega
      have hr := range_1 (e - b - 1) (by omega)
      rw [lg, if_neg c, if_neg c2]
      have k0 : (0 : Int) < ((e - b - 1 : Nat) : Int) := by omega
      have kd := oDiv_ii (room ws w b e) ((e - b - 1 : Nat) : Int) k0 (by omega)
      have km := oMod_ii (room ws w b e) ((e - b - 1 : Nat) : Int) k0
      have c'' : ¬ (((e - b - 1 : Nat) : Int) = 0) := by omega
      simp only [F_line_gaps, runF, d_line_gaps]
      generalize e - b - 1 = k at *
      simp [c', c3, room_of_ok, hk, c]
      rw [lcM (List.range k) enc (fun g => .int (1 + room ws w b e / (k : Int) + b2 (decide ((g : Int) < room ws w b e % (k : Int))))) (by simp [hr]) (szl (by rw [List.length_range]; omega)) (fun g hg => by simp [kd, km]) (by simp) (by simp)]
      simp
theorem all_gaps_S {ws : List Int} (h : Wd ws) {w : Int} {r : List Nat} (hr : r ∈ S ws w 0) : F_all_gaps [.tup (ws.map enc), .int w, .tup (r.map enc)] = .ok (.lst (((lns ws.length r).map fun p => lg ws w p.1 p.2).map enc), true) := by
  obtain ⟨_, h3, _, _, h5⟩ := S0 h hr
  have hf := h.few
  have hl := lns_len ws.length r
  have lo := lines_of_ok h r (by omega)
  simp [F_all_gaps, runF, d_all_gaps]
  generalize lns ws.length r = L at *
  rw [lcM L (fun p => .tup [enc p.1, enc p.2]) (fun p => .tup ((lg ws w p.1 p.2).map enc)) (by simp [lo]) (szl (by omega)) (fun p hp => by
    have := h5 p hp
    simp [line_gaps_ok h w this.1 this.2.1]) (by simp) (by simp)]
  simp
theorem check_setting_S {ws : List Int} (h : Wd ws) {w : Int} (h1 : 1 ≤ w) (h2 : w ≤ 30) {r : List Nat} (hr : r ∈ S ws w 0) : F_check_setting [.tup (ws.map enc), .int w, .tup (r.map enc)] = .ok (.non, false) := by
  simp [F_check_setting, runF, d_check_setting, check_page_ok h h1 h2, is_setting_of_S h hr]
def gapsL (ws : List Int) (w : Int) (r : List Nat) : List (List Int) := (lns ws.length r).map fun p => lg ws w p.1 p.2
theorem gaps_of_S {ws : List Int} (h : Wd ws) {w : Int} (h1 : 1 ≤ w) (h2 : w ≤ 30) {r : List Nat} (hr : r ∈ S ws w 0) : F_gaps_of [.tup (ws.map enc), .int w, .tup (r.map enc)] = .ok (.tup ((gapsL ws w r).map enc), false) := by
  have e1 := check_setting_S h h1 h2 hr
  have e2 := all_gaps_S h hr
  rw [show ((lns ws.length r).map fun p => lg ws w p.1 p.2) = gapsL ws w r from rfl] at e2
  generalize gapsL ws w r = G at *
  simp [F_gaps_of, runF, d_gaps_of, e1, e2]
theorem widest_gap_S {ws : List Int} (h : Wd ws) {w : Int} (h1 : 1 ≤ w) (h2 : w ≤ 30) {r : List Nat} (hr : r ∈ S ws w 0) : F_widest_gap [.tup (ws.map enc), .int w, .tup (r.map enc)] = .ok (.int (wid ws w r), false) := by
  have hS := S0 h hr
  have hf := h.few
  have e1 := check_setting_S h h1 h2 hr
  have e2 := all_gaps_S h hr
  have hm := wid_max ws w r
  have hl := lns_len ws.length r
  have hsame : maxL ((0 : Int) :: ((lns ws.length r).filter fun p => !(lg ws w p.1 p.2).isEmpty).map fun p => mg ws w p.1 p.2) = some (wid ws w r) := by
    rw [← hm]
    refine maxL_congr fun a => ?_
    simp only [List.mem_cons, List.mem_map, List.mem_filter]
    constructor
    · rintro (q | ⟨p, ⟨hp, _⟩, e⟩)
      · exact .inl q
      · exact .inr ⟨p, hp, e⟩
    · rintro (q | ⟨p, hp, e⟩)
      · exact .inl q
      · cases c : (lg ws w p.1 p.2).isEmpty with
        | false => exact .inr ⟨p, ⟨hp, by simp [c]⟩, e⟩
        | true =>
          left
          have := mg_max ws w p.1 p.2
          rw [List.isEmpty_iff.mp c] at this
          have := (maxL_some.mp this).1
          rw [← e]; simpa using this
  have e3 := max_map _ (by decide) _ hsame
  have each : ∀ p ∈ lns ws.length r, lg ws w p.1 p.2 ≠ [] → oBest maxV (.tup ((lg ws w p.1 p.2).map enc)) = .ok (.int (mg ws w p.1 p.2), false) := fun p hp hne => by
    refine max_mapT _ (by decide) (mg ws w p.1 p.2) ?_
    have q := maxL_some.mp (mg_max ws w p.1 p.2)
    have b := lg_bnd h h2 (hS.2.2.2.2 p hp).2.1 (hS.2.2.2.2 p hp).2.2
    rw [maxL_some]
    refine ⟨?_, fun y hy => q.2 y (List.mem_cons_of_mem _ hy)⟩
    rcases List.mem_cons.mp q.1 with z | z
    · obtain ⟨y, hy⟩ := List.exists_mem_of_ne_nil _ hne
      have := q.2 y (List.mem_cons_of_mem _ hy)
      have this : ¬ (mg ws w p.1 p.2 < y) := of_decide_eq_false this
      have := (b y hy).1
      omega
    · exact z
  have hfl : (List.filter (fun p => !(lg ws w p.1 p.2).isEmpty) (lns ws.length r)).length ≤ 14 := Nat.le_trans (List.length_filter_le _ _) (by omega)
  have hXl : (((List.filter (fun p => !(lg ws w p.1 p.2).isEmpty) (lns ws.length r)).map fun p => mg ws w p.1 p.2)).length ≤ 14 := by rw [List.length_map]; exact hfl
  simp [F_widest_gap, runF, d_widest_gap, e1]
  rw [lcF (lns ws.length r) (fun p => enc (lg ws w p.1 p.2)) (fun p => .int (mg ws w p.1 p.2)) (fun p => !(lg ws w p.1 p.2).isEmpty) (by simp [e2]) (szl (by omega)) (fun p hp => by
    cases c : (lg ws w p.1 p.2) with
    | nil => simp
    | cons y ys =>
      have := each p hp (by rw [c]; simp)
      rw [c] at this
      simp at this
      simp [this]) (by simp) (by simp)]
  rw [show (List.map (fun p => Val.int (mg ws w p.1 p.2)) (List.filter (fun p => !(lg ws w p.1 p.2).isEmpty) (lns ws.length r))) = (((List.filter (fun p => !(lg ws w p.1 p.2).isEmpty) (lns ws.length r)).map fun p => mg ws w p.1 p.2)).map enc from by rw [List.map_map]; rfl]
  generalize ((List.filter (fun p => !(lg ws w p.1 p.2).isEmpty) (lns ws.length r)).map fun p => mg ws w p.1 p.2) = X at *
  have hcat := oAdd_ll [Val.int 0] (X.map enc) (by have := szl (n := 1 + X.length) (by omega); simpa using this)
  simp at hcat e3
  simp [hcat, e3]
end Lf

namespace Lf
open PySem PySem.Spec PyProof.Rows L2 PV
open EV (enc)
def cal1 : SD := (sIf (dAndT (dTB (dBin oIsNot (dIxS 3 (dVar 6)) (dC .non))) (dTB (dBin oGe (dCB F_room_of [(dVar 0), (dVar 1), (dVar 4), (dVar 6)]) (dC (.int 0))))) (sIf (dTB (dBin oLe (dCB (on1 (oBest maxV)) [(dBin oAdd (dTup [(dC (.int 0))]) (dCB F_line_gaps [(dVar 0), (dVar 1), (dVar 4), (dVar 6)]))]) (dVar 2))) (sExpr (dApp 5 (dBin oAdd (dTup [(dVar 4)]) (dIxS 3 (dVar 6))))) sNil) sNil)
def cal2 : SD := (sSeq (sOwn (dLst []) 5)
    (sSeq (sFor (iRng [(dBin oAdd (dVar 4) (dC (.int 1))), (dBin oAdd (dCBS oLen 0) (dC (.int 1)))]) (gN 6) cal1)
    (sSet 3 (dVar 4) (dIf (dTB (dBin oGt (dCBS oLen 5) (dC (.int 0)))) (dCBS (oBest minV) 5) (dC .non)))))
def cal3 : SD := (sSeq (sOwn (dBin oAdd (dBin oMul (dLst [(dC .non)]) (dCBS oLen 0)) (dLst [(dTup [])])) 3)
    (sSeq (sFor (iRng [(dBin oSub (dCBS oLen 0) (dC (.int 1))), (dUn oNeg (dC (.int 1))), (dUn oNeg (dC (.int 1)))]) (gN 4) cal2)
    (sIf (dTB (dBin oIsNot (dIxS 3 (dC (.int 0))) (dC .non))) (sRet (dTup [(dVar 2), (dIxS 3 (dC (.int 0)))])) sNil)))
theorem cal3_ok {ws : List Int} (h : Wd ws) {w : Int} (h1 : 1 ≤ w) (h2 : w ≤ 30) (m : Nat) (s3 s4 s5 s6 : PV.Slot) : (cal3 [.frz (.tup (ws.map enc)), .frz (.int w), .frz (.int (m : Int)), s3, s4, s5, s6]).Is fun r => match cm ws w m 0 with
    | none => ∃ t3 t4 t5 t6, r = .nx [.frz (.tup (ws.map enc)), .frz (.int w), .frz (.int (m : Int)), t3, t4, t5, t6]
    | some q => ∃ env, r = .ret (.tup [.int (m : Int), .tup (q.map enc)]) false env := by
  have hf := h.few
  have hm := oMul_l1 .non ws.length h.line
  have hr := range_3 ws.length (by omega)
  have hT := tab_top (fun b => (enc (cm ws w m b) : Val)) .non ws.length
  simp only [cm_top] at hT
  have hadd : oAdd (.lst (List.replicate ws.length .non)) (.lst [.tup []]) = .ok (.lst (tab (fun b => enc (cm ws w m b)) .non ws.length ws.length), true) := by
    rw [oAdd_ll _ _ (by have := szl (n := ws.length + 1) (by omega); simpa using this), hT]; rfl
  have key := for_tab (g := gN 4) (b := cal2)
    (fun (found : List Val) (tl : PV.Slot × PV.Slot × PV.Slot) => [.frz (.tup (ws.map enc)), .frz (.int w), .frz (.int (m : Int)), .own (.lst found), tl.1, tl.2.1, tl.2.2]) (fun b => enc (cm ws w m b)) .non ws.length ?_ (s4, s5, s6)
  · obtain ⟨⟨t4, t5, t6⟩, hk⟩ := key
    simp only at hk
    have i0 := oIx_l _ _ (T0 (fun b => enc (cm ws w m b)) ws.length)
    have n0 : isNon (enc (cm ws w m 0)) = (cm ws w m 0).isNone := by cases cm ws w m 0 <;> rfl
    unfold cal3
    simp [hm, hadd, hr, hk, i0, n0]
    cases q : cm ws w m 0 with
    | none => simp
    | some r => simp
  · rintro k hk ⟨t4, t5, t6⟩
    have inner := for_app (g := gN 6) (b := cal1)
      (fun (acc : List Val) (tl : PV.Slot) => [.frz (.tup (ws.map enc)), .frz (.int w), .frz (.int (m : Int)), .own (.lst (tab (fun b => enc (cm ws w m b)) .non ws.length (k + 1))), .frz (.int k), .own (.lst acc), tl])
      enc (fun e => (fit ws w k e && decide (mg ws w k e ≤ m)) && (cm ws w m e).isSome) (fun e => enc (k :: (cm ws w m e).getD [])) (nds ws k) ?_ [] t6 (by unfold nds; rw [List.length_range', show sizeLine = 16777216 from rfl]; simp; omega)
    · obtain ⟨tl, hi⟩ := inner
      have hmap : ((nds ws k).filter fun e => (fit ws w k e && decide (mg ws w k e ≤ m)) && (cm ws w m e).isSome).map (fun e => (enc (k :: (cm ws w m e).getD []) : Val)) = (((nds ws k).filter fun e => (fit ws w k e && decide (mg ws w k e ≤ m)) && (cm ws w m e).isSome).map fun e => k :: (cm ws w m e).getD []).map enc := by
        rw [List.map_map]; rfl
      have hst := cm_step ws w m hk
      unfold cmStep at hst
      rw [List.nil_append, hmap] at hi
      generalize (((nds ws k).filter fun e => (fit ws w k e && decide (mg ws w k e ≤ m)) && (cm ws w m e).isSome).map fun e => k :: (cm ws w m e).getD []) = xs at hi hst
      unfold cal2
      simp [rng_nds h (Nat.le_of_lt hk), hi]
      have fin : ∀ v, v = enc (cm ws w m k) → setV (.lst (tab (fun b => enc (cm ws w m b)) .non ws.length (k + 1))) (.int k) v = some (.lst (tab (fun b => enc (cm ws w m b)) .non ws.length k)) := fun v e => by
        rw [setV_l _ _ _ (by rw [tab_len]; omega), e, tab_set (fun b => enc (cm ws w m b)) .non ws.length k hk]
      cases q : cm ws w m k with
      | none =>
        rw [q] at hst
        have := minL_none.mp hst.symm
        subst this
        simp [fin .non (by rw [q]; rfl)]
      | some p =>
        rw [q] at hst
        have hb := min_map _ (by decide) p hst.symm
        have hne : xs ≠ [] := fun z => by rw [z] at hst; cases hst
        have hpos := List.length_pos_iff.mpr hne
        have hfin := fin (enc p) (by rw [q]; rfl)
        simp at hb hfin
        simp [hpos, hb, hfin]
    · rintro e he acc u hl
      have he' := (mem_nds ws).mp he
      have hix := oIx_l _ _ (tab_at (fun b => enc (cm ws w m b)) .non ws.length (k + 1) e (by omega) (he'.2.1 hk))
      have hlg := line_gaps_ok h w he'.1 (he'.2.1 hk)
      have hbest := max_mapT _ (by decide) _ (mg_max ws w k e)
      have hcat0 : oAdd (.tup [.int 0]) (.tup ((lg ws w k e).map enc)) = .ok (.tup (.int 0 :: (lg ws w k e).map enc), false) := oAdd_tt _ _ (by have := lg_len (ws := ws) w k e; have := szl (n := (lg ws w k e).length + 1) (by omega); rw [List.length_map]; simp; omega)
      simp at hbest
      unfold cal1
      simp [fit]
      cases q : cm ws w m e with
      | none => simp [hix, q]
      | some p =>
        by_cases c : 0 ≤ room ws w k e
        · have hml : p.length ≤ 14 := by
            rw [cm_S ws w m e (he'.2.1 hk)] at q
            have := S_len w e (he'.2.1 hk) p (List.mem_filter.mp (minL_some.mp q).1).1
            omega
          have hcat : oAdd (.tup [.int (k : Int)]) (.tup (p.map enc)) = .ok (.tup (.int (k : Int) :: p.map enc), false) := oAdd_tt _ _ (by rw [List.length_map, show sizeLine = 16777216 from rfl]; simp; omega)
          by_cases c2 : mg ws w k e ≤ m
          · simp [c, hix, q, hl, hlg, hcat, hcat0, hbest, c2, room_of_ok]
          · simp [c, hix, q, hl, hlg, hcat, hcat0, hbest, c2, room_of_ok]
        · simp [c, hix, q, room_of_ok]
theorem calmest_ok {ws : List Int} (h : Wd ws) {w : Int} (h1 : 1 ≤ w) (h2 : w ≤ 30) : F_calmest [.tup (ws.map enc), .int w] = .ok (enc (calm ws w), false) := by
  obtain ⟨m, hm, m1, m2, m3⟩ := maxW h
  have hb := max_mapT ws (by decide) m hm
  simp at hb
  have hr := range_1 31 (by decide)
  by_cases c : w < m
  · have hS : S ws w 0 = [] := by
      cases q : S ws w 0 with
      | nil => rfl
      | cons r _ =>
        have hr : r ∈ S ws w 0 := by rw [q]; simp
        have := S_fits h hr m (maxL_some.mp hm).1
        omega
    have : calm ws w = none := by unfold calm; rw [hS]; rfl
    rw [this]
    simp [F_calmest, runF, d_calmest, check_page_ok h h1 h2, hb, c]
  · have hfit : ∀ x ∈ ws, x ≤ w := fun x hx => by have := m3 x hx; omega
    have hne : S ws w 0 ≠ [] := fun z => by have := fullS_mem h.one hfit; rw [z] at this; cases this
    obtain ⟨u, r, e, u0, u30, cu, cl, hr'⟩ := calm_at h h2 hne
    obtain ⟨u', rfl⟩ : ∃ u' : Nat, u = (u' : Int) := ⟨u.toNat, by omega⟩
    have key := for_inv (g := gN 2) (b := cal3) (Q := fun q => ∃ env, q = .ret (.tup [.int (u' : Int), .tup (r.map enc)]) false env) ((List.range 31).map enc)
      (fun i env => i ≤ u' ∧ ∃ s2 s3 s4 s5 s6, env = [.frz (.tup (ws.map enc)), .frz (.int w), s2, s3, s4, s5, s6])
      [.frz (.tup (ws.map enc)), .frz (.int w), .emp, .emp, .emp, .emp, .emp] ⟨Nat.zero_le _, _, _, _, _, _, rfl⟩ ?_ ?_
    · obtain ⟨q, k1, env, rfl⟩ := key.ex
      have hd : d_calmest = sSeq _ (sSeq _ (sSeq (sFor (iRng [(dBin oAdd (dC (.int 30)) (dC (.int 1)))]) (gN 2) cal3) (sRet (dC .non)))) := rfl
      unfold F_calmest runF
      rw [hd, e]
      simp at hr
      simp [check_page_ok h h1 h2, hb, c, hr, k1]
    · rintro i hi env ⟨hiu, s2, s3, s4, s5, s6, rfl⟩
      rw [List.getElem_map, List.getElem_range]
      have hc := cal3_ok h h1 h2 i s3 s4 s5 s6
      rw [show gN 2 (enc i) [.frz (.tup (ws.map enc)), .frz (.int w), s2, s3, s4, s5, s6] = .ok [.frz (.tup (ws.map enc)), .frz (.int w), .frz (.int (i : Int)), s3, s4, s5, s6] from rfl, res_ok_bind]
      refine hc.mono fun q hq => ?_
      by_cases ce : i = u'
      · subst ce
        rw [cu] at hq
        obtain ⟨env, rfl⟩ := hq
        exact ⟨env, rfl⟩
      · rw [cl i (by omega) (by omega)] at hq
        obtain ⟨t3, t4, t5, t6, rfl⟩ := hq
        exact ⟨by omega, _, _, _, _, _, rfl⟩
    · rintro env ⟨hiu, _⟩
      simp at hiu
      omega
end Lf

namespace Lf
open PySem PySem.Spec PyProof.Rows L2 PV
open EV (enc)
def lgB : SD := (sSeq (sAsg (dTup [(dBin oSub (dBin oSub (dVar 5) (dVar 4)) (dC (.int 1))), (dBin oSub (dVar 1) (dCB (on1 oSum) [(dSl (dVar 0) (pSome (dVar 4)) (pSome (dVar 5)))]))]) (gT 2 (gsCons (gN 6) (gsCons (gN 7) gsNil))))
    (sIf (dTB (dBin oEq (dVar 5) (dCBS oLen 0))) (sExpr (dApp 3 (dBin oMul (dTup [(dC (.int 1))]) (dVar 6)))) (sExpr (dApp 3 (dCB (on1 oTuple) [(dLc [8] (iRng [(dVar 6)]) (gN 8) dYes (dBin oAdd (dBin oDiv (dVar 7) (dVar 6)) (dCB (on1 oInt) [(dBin oLt (dVar 8) (dBin oMod (dCB (on1 oInt) [(dVar 7)]) (dVar 6)))])))])))))
theorem lgB_ok {ws : List Int} (h : Wd ws) (w : Int) (r : Val) {b e : Nat} (hb : b < e) (he : e ≤ ws.length) (acc : List Val) (ha : acc.length < sizeLine) (s4 s5 s6 s7 : PV.Slot) : ∃ t6 t7, lgB [.frz (.tup (ws.map enc)), .frz (.int w), .frz r, .own (.lst acc), .frz (.int (b : Int)), .frz (.int (e : Int)), s6, s7, .emp] = .ok (.nx [.frz (.tup (ws.map enc)), .frz (.int w), .frz r, .own (.lst (acc ++ [enc (lg ws w b e)])), .frz (.int (b : Int)), .frz (.int (e : Int)), t6, t7, .emp]) := by
  have hf := h.few
  have hk : ((e : Int) - b - 1) = ((e - b - 1 : Nat) : Int) := by omega
  have hbl : w - (seg ws b e).sum = room ws w b e + ((e - b - 1 : Nat) : Int) := by unfold room; omega
  have hcut : cut ws (some (b : Int)) (some (e : Int)) = seg ws b e := by rw [cut_nn]; rfl
  refine ⟨.frz (.int ((e - b - 1 : Nat) : Int)), .frz (.int (room ws w b e + ((e - b - 1 : Nat) : Int))), ?_⟩
  unfold lgB
  by_cases c2 : e = ws.length
  · have hm := oMul_t1 (.int 1) (e - b - 1) (by omega)
    have el : lg ws w b e = List.replicate (e - b - 1) 1 := by
      unfold lg
      split
      · rename_i c; rw [c]; rfl
      · rfl
    rw [el]
    have c3 : ((e : Int) = (ws.length : Int)) := by omega
    simp [hcut, hbl, hk]
    generalize e - b - 1 = k at *
    simp [c3, hm, ha]
  · have c3 : ¬ ((e : Int) = (ws.length : Int)) := by omega
    have hr := range_1 (e - b - 1) (by omega)
    have el : (lg ws w b e).map enc = (List.range (e - b - 1)).map fun g : Nat => Val.int ((room ws w b e + ((e - b - 1 : Nat) : Int)) / ((e - b - 1 : Nat) : Int) + b2 (decide ((g : Int) < (room ws w b e + ((e - b - 1 : Nat) : Int)) % ((e - b - 1 : Nat) : Int)))) := by
      unfold lg
      split
      · rename_i c; rw [c]; rfl
      · rename_i c
        rw [List.map_map]
        apply List.map_congr_left
        intro g _
        have k0 : ((e - b - 1 : Nat) : Int) ≠ 0 := by omega
        have d1 := Int.add_ediv_of_dvd_right (a := room ws w b e) (b := ((e - b - 1 : Nat) : Int)) (c := ((e - b - 1 : Nat) : Int)) (Int.dvd_refl _)
        rw [Int.ediv_self k0] at d1
        have d2 := Int.add_emod_right (room ws w b e) ((e - b - 1 : Nat) : Int)
        show Val.int (1 + room ws w b e / ((e - b - 1 : Nat) : Int) + _) = Val.int _
        rw [d1, d2]
        congr 2
        omega
    simp [hcut, hbl, hk, el]
    generalize e - b - 1 = k at *
    simp [c3]
    rw [lcM (List.range k) enc (fun g : Nat => Val.int ((room ws w b e + (k : Int)) / (k : Int) + b2 (decide ((g : Int) < (room ws w b e + (k : Int)) % (k : Int))))) (by simp [hr]) (szl (by rw [List.length_range]; omega)) (fun g hg => by
      have hg' := List.mem_range.mp hg
      have kd := oDiv_ii (room ws w b e + (k : Int)) (k : Int) (by omega) (by omega)
      have km := oMod_ii (room ws w b e + (k : Int)) (k : Int) (by omega)
      simp [kd, km]) (by simp) (by simp)]
    simp [ha]
theorem law_gaps_ok {ws : List Int} (h : Wd ws) {w : Int} {r : List Nat} (hr : r ∈ S ws w 0) : F__law_gaps [.tup (ws.map enc), .int w, .tup (r.map enc)] = .ok (.tup ((gapsL ws w r).map enc), false) := by
  obtain ⟨_, h3, _, _, h5⟩ := S0 h hr
  have hf := h.few
  have hl := lns_len ws.length r
  have hz := lns_zip ws.length r
  rw [cut_map] at hz
  have hc : oAdd (.tup ((cut r (some 1) none).map enc)) (.tup [.int (ws.length : Int)]) = .ok (.tup ((cut r (some 1) none).map enc ++ [.int (ws.length : Int)]), false) := oAdd_tt _ _ (by rw [List.length_map, cut_1, List.length_tail]; exact szl (by simp; omega))
  have key := for_app (g := (gT 2 (gsCons (gN 4) (gsCons (gN 5) gsNil)))) (b := lgB) (fun (acc : List Val) (tl : PV.Slot × PV.Slot × PV.Slot × PV.Slot) => [.frz (.tup (ws.map enc)), .frz (.int w), .frz (.tup (r.map enc)), .own (.lst acc), tl.1, tl.2.1, tl.2.2.1, tl.2.2.2, .emp])
    (fun p : Nat × Nat => .tup [enc p.1, enc p.2]) (fun _ => true) (fun p => enc (lg ws w p.1 p.2)) (lns ws.length r) (fun p hp acc tl ha => by
      have := h5 p hp
      obtain ⟨t6, t7, e⟩ := lgB_ok h w (.tup (r.map enc)) this.1 this.2.1 acc ha .emp .emp tl.2.2.1 tl.2.2.2
      simp [e]) [] (.emp, .emp, .emp, .emp) (szl (by simp; omega))
  obtain ⟨tl, k⟩ := key
  have hd : d__law_gaps = sSeq (sOwn (dLst []) 3) (sSeq (sFor (iOf zipVs [(dVar 2), (dBin oAdd (dSl (dVar 2) (pSome (dC (.int 1))) pNone) (dTup [(dCBS oLen 0)]))]) (gT 2 (gsCons (gN 4) (gsCons (gN 5) gsNil))) lgB) (sRet (dCBS oTuple 3))) := rfl
  unfold F__law_gaps runF
  rw [hd]
  unfold gapsL
  simp at hz
  simp [hc, zipVs, seqKV, hz]
  simp at k
  simp [k]
  rw [List.filter_eq_self.mpr fun _ _ => rfl]
  rfl
theorem law_widest_ok {ws : List Int} (h : Wd ws) {w : Int} (h2 : w ≤ 30) {r : List Nat} (hr : r ∈ S ws w 0) : F__law_widest [.tup (ws.map enc), .int w, .tup (r.map enc)] = .ok (.int (wid ws w r), false) := by
  have hS := S0 h hr
  have hf := h.few
  have e1 := law_gaps_ok h hr
  have hm := wid_max ws w r
  have hl := lns_len ws.length r
  unfold gapsL at e1
  simp [F__law_widest, runF, d__law_widest]
  rw [lcM (lns ws.length r) (fun p => enc (lg ws w p.1 p.2)) (fun p => .int (mg ws w p.1 p.2)) (by simp [e1]) (szl (by omega)) (fun p hp => by
    have hb := max_map _ (by decide) _ (mg_max ws w p.1 p.2)
    have hlen := lg_len (ws := ws) w p.1 p.2
    have hp5 := hS.2.2.2.2 p hp
    have hcat := oAdd_ll [Val.int 0] ((lg ws w p.1 p.2).map enc) (by have := szl (n := 1 + (lg ws w p.1 p.2).length) (by omega); simpa using this)
    simp at hb hcat
    simp [hcat, hb]) (by simp) (by simp)]
  rw [show (List.map (fun p : Nat × Nat => Val.int (mg ws w p.1 p.2)) (lns ws.length r)) = ((lns ws.length r).map fun p => mg ws w p.1 p.2).map enc from by rw [List.map_map]; rfl]
  have hX : ((lns ws.length r).map fun p => mg ws w p.1 p.2).length ≤ 14 := by rw [List.length_map]; omega
  generalize ((lns ws.length r).map fun p => mg ws w p.1 p.2) = X at *
  have e3 := max_map _ (by decide) _ hm
  have hcat := oAdd_ll [Val.int 0] (X.map enc) (by have := szl (n := 1 + X.length) (by omega); simpa using this)
  simp at hcat e3
  simp [hcat, e3]
/-! ### the law -/
abbrev E10 (is : List Int) (h : Val) (s2 s3 s4 s5 s6 s7 : PV.Slot) : EnvD := [.frz (.scr is), .own h, s2, s3, s4, s5, s6, s7, .emp, .emp]
def l78A : SD := (sAsg (dTup [(dCallH F__law_words 1 [(dC (.int 7))]), (dBin oAdd (dC (.int 1)) (dCallH F__law_draw 1 [(dC (.int 24))]))]) (gT 2 (gsCons (gN 3) (gsCons (gN 4) gsNil))))
def l78B : SD := (sPar 5 6 [(dCB F__law_settings [(dVar 3), (dVar 4)]), (dCB F_calmest [(dVar 3), (dVar 4)])])
def l78C : SD := (sIf (dTB (dBin oNe (dBin oIs (dVar 6) (dC .non)) (dBin oEq (dVar 5) (dLst [])))) (sRet (dC (.bl false))) sNil)
def l78D1 : SD := (sSeq (sIf (dTB (dBin oNe (dCB (on1 oTuple) [(dLc [8] (iVal (dCB F_gaps_of [(dVar 3), (dVar 4), (dVar 7)])) (gN 8) dYes (dCBS oTuple 8))]) (dCB F__law_gaps [(dVar 3), (dVar 4), (dVar 7)]))) (sRet (dC (.bl false))) sNil)
    (sSeq (sIf (dTB (dBin oNe (dCB F_widest_gap [(dVar 3), (dVar 4), (dVar 7)]) (dCB F__law_widest [(dVar 3), (dVar 4), (dVar 7)]))) (sRet (dC (.bl false))) sNil)
    (sIf (dTB (dBin oNe (dCBS oTuple 6) (dCB (on1 (oBest minV)) [(dLc [9] (iVal (dVar 5)) (gN 9) dYes (dTup [(dCB F__law_widest [(dVar 3), (dVar 4), (dVar 9)]), (dVar 9)]))]))) (sRet (dC (.bl false))) sNil)))
def l78D : SD := (sIf (dTB (dBin oNe (dVar 5) (dLst []))) (sSeq (sOwn (dCallH F__law_some 1 [(dVar 5)]) 7) l78D1) sNil)
def turn78 : SD := sSeq l78A (sSeq l78B (sSeq l78C l78D))
section
variable (is : List Int) (h : Val) (s2 s3 s4 s5 s6 s7 : PV.Slot)
theorem l78A_ok (g : GH h) : ∃ h' ws w, l78A (E10 is h s2 s3 s4 s5 s6 s7) = .ok (.nx (E10 is h' s2 (.frz (.tup (ws.map enc))) (.frz (.int w)) s5 s6 s7)) ∧ GH h' ∧ Wd ws ∧ 1 ≤ w ∧ w ≤ 24 := by
  obtain ⟨ws, h1, e1, q1, q2, g1⟩ := law_words_ok g (most := 7) (by decide) (by decide)
  obtain ⟨d, h2, e2, q3, g2⟩ := drawI g1 (many := 24) (by decide) (by decide)
  refine ⟨h2, ws, 1 + d, ?_, g2, q1, by omega, by omega⟩
  unfold l78A
  simp [e1, e2]
variable {ws : List Int} {w : Int} (hW : Wd ws) (w1 : 1 ≤ w) (w2 : w ≤ 30)
include hW w1 w2
theorem l78C_ok : l78C (E10 is h s2 (.frz (.tup (ws.map enc))) (.frz (.int w)) (.frz (.lst ((every ws w).map enc))) (.frz (enc (calm ws w))) s7) = .ok (.nx (E10 is h s2 (.frz (.tup (ws.map enc))) (.frz (.int w)) (.frz (.lst ((every ws w).map enc))) (.frz (enc (calm ws w))) s7)) := by
  have e0 := oEq_lnil (every ws w) (by decide)
  have q : isNon (enc (calm ws w)) = (every ws w).isEmpty := by
    have hp := (every_perm ws w hW.one).length_eq
    cases c : calm ws w with
    | none =>
      unfold calm at c
      rw [minL_none, List.map_eq_nil_iff] at c
      rw [c] at hp
      rw [List.length_eq_zero_iff.mp hp]; rfl
    | some m =>
      have h1 := (minL_some.mp c).1
      obtain ⟨r, hr, _⟩ := List.mem_map.mp h1
      have : 0 < (every ws w).length := by rw [hp]; exact List.length_pos_of_mem hr
      cases c2 : every ws w with
      | nil => rw [c2] at this; simp at this
      | cons _ _ => rfl
  unfold l78C
  generalize every ws w = ev at *
  simp [e0, q]
theorem l78D1_ok {r : List Nat} (hr : r ∈ every ws w) : l78D1 (E10 is h s2 (.frz (.tup (ws.map enc))) (.frz (.int w)) (.frz (.lst ((every ws w).map enc))) (.frz (enc (calm ws w))) (.frz (.tup (r.map enc)))) = .ok (.nx (E10 is h s2 (.frz (.tup (ws.map enc))) (.frz (.int w)) (.frz (.lst ((every ws w).map enc))) (.frz (enc (calm ws w))) (.frz (.tup (r.map enc))))) := by
  have hev := every_len hW w
  have hf := hW.few
  have hS := (mem_every hW w r).mp hr
  have hne : S ws w 0 ≠ [] := fun z => by rw [z] at hS; cases hS
  obtain ⟨m, q, ec, _⟩ := calm_at hW w2 hne
  have e2 : minL ((every ws w).map fun r => (wid ws w r, r)) = some (m, q) := by
    rw [← ec]
    refine minL_congr fun a => ?_
    rw [List.mem_map, List.mem_map]
    exact ⟨fun ⟨r, a, b⟩ => ⟨r, (mem_every hW w r).mp a, b⟩, fun ⟨r, a, b⟩ => ⟨r, (mem_every hW w r).mpr a, b⟩⟩
  have hm := min_map _ (by decide) _ e2
  have g1 := gaps_of_S hW w1 w2 hS
  have g2 := law_gaps_ok hW hS
  have g3 := widest_gap_S hW w1 w2 hS
  have g4 := law_widest_ok hW w2 hS
  have hG : (gapsL ws w r).length ≤ 14 := by
    unfold gapsL
    rw [List.length_map, lns_len]
    have := (S0 hW hS).2.1
    omega
  have m1 := lcM (own := [9]) (it := (iVal (dVar 5))) (g := (gN 9)) (t := dYes) (elt := (dTup [(dCB F__law_widest [(dVar 3), (dVar 4), (dVar 9)]), (dVar 9)]))
    (env := E10 is h s2 (.frz (.tup (ws.map enc))) (.frz (.int w)) (.frz (.lst ((every ws w).map enc))) (.frz (enc (calm ws w))) (.frz (.tup (r.map enc))))
    (every ws w) enc (fun r => enc (wid ws w r, r)) (by simp) (szl (by omega)) (fun x hx => by simp [law_widest_ok hW w2 ((mem_every hW w x).mp hx)]) (by simp) (by simp)
  rw [show ((every ws w).map fun r => (enc (wid ws w r, r) : Val)) = ((every ws w).map fun r => (wid ws w r, r)).map enc by rw [List.map_map]; rfl] at m1
  generalize gapsL ws w r = G at *
  have m2 := lcM (own := [8]) (it := (iVal (dCB F_gaps_of [(dVar 3), (dVar 4), (dVar 7)]))) (g := (gN 8)) (t := dYes) (elt := (dCBS oTuple 8))
    (env := E10 is h s2 (.frz (.tup (ws.map enc))) (.frz (.int w)) (.frz (.lst ((every ws w).map enc))) (.frz (enc (calm ws w))) (.frz (.tup (r.map enc))))
    G enc enc (by simp [g1]) (szl (by omega)) (fun x hx => by simp) (by simp) (by simp)
  have ne := oNe_e (m, q) (m, q) (by decide)
  have ne2 := oNe_e G G (by decide)
  generalize ((every ws w).map fun r => (wid ws w r, r)) = M at *
  rw [ec] at m1 m2 ⊢
  simp at m1 m2 hm ne ne2
  unfold l78D1
  simp [m1, m2, hm, ne, ne2, g1, g2, g3, g4]
theorem l78D_ok (g : GH h) : ∃ h' t7, l78D (E10 is h s2 (.frz (.tup (ws.map enc))) (.frz (.int w)) (.frz (.lst ((every ws w).map enc))) (.frz (enc (calm ws w))) s7) = .ok (.nx (E10 is h' s2 (.frz (.tup (ws.map enc))) (.frz (.int w)) (.frz (.lst ((every ws w).map enc))) (.frz (enc (calm ws w))) t7)) ∧ GH h' := by
  have e0 := oNe_lnil (every ws w) (by decide)
  unfold l78D
  by_cases c : every ws w = []
  · refine ⟨h, s7, ?_, g⟩
    rw [c] at e0 ⊢
    simp at e0
    simp [e0]
  · obtain ⟨r, h2, e2, hr, g2⟩ := law_some_l g (every ws w) c (by have := every_len hW w; omega)
    have e3 := l78D1_ok is h2 s2 hW w1 w2 hr
    have c' : (every ws w).isEmpty = false := by simpa using c
    rw [c'] at e0
    generalize every ws w = ev at *
    refine ⟨h2, .frz (.tup (r.map enc)), ?_, g2⟩
    simp at e2 e3
    simp [e0, e2, e3]
end
theorem turn78_all (is : List Int) (h : Val) (g : GH h) (s2 s3 s4 s5 s6 s7 : PV.Slot) : ∃ h' t3 t4 t5 t6 t7, turn78 (E10 is h s2 s3 s4 s5 s6 s7) = .ok (.nx (E10 is h' s2 t3 t4 t5 t6 t7)) ∧ GH h' := by
  obtain ⟨h1, ws, w, eA, g1, hW, w1, w2'⟩ := l78A_ok is h s2 s3 s4 s5 s6 s7 g
  have w2 : w ≤ 30 := by omega
  have eB : l78B (E10 is h1 s2 (.frz (.tup (ws.map enc))) (.frz (.int w)) s5 s6 s7) = .ok (.nx (E10 is h1 s2 (.frz (.tup (ws.map enc))) (.frz (.int w)) (.frz (.lst ((every ws w).map enc))) (.frz (enc (calm ws w))) s7)) := by
    have q1 := law_settings_ok hW w
    have q2 := calmest_ok hW w1 w2
    unfold l78B
    simp [q1, q2]
  have eC := l78C_ok is h1 s2 s7 hW w1 w2
  obtain ⟨h2, t7, eD, g2⟩ := l78D_ok is h1 s2 s7 hW w1 w2 g1
  exact ⟨h2, _, _, _, _, _, seq_ok eA (seq_ok eB (seq_ok eC eD)), g2⟩
theorem law78 (is : List Int) (hl : is.length ≤ 63) : ∃ o, F_law_k78 [.scr is] = .ok (.bl true, o) := by
  refine ⟨false, ?_⟩
  obtain ⟨h0, e0, g0⟩ := law_hand_ok is hl
  have hr := range_1 4 (by decide)
  have key := for_inv (g := gN 2) (b := turn78) (Q := fun r => ∃ h' t2 t3 t4 t5 t6 t7, r = .nx (E10 is h' t2 t3 t4 t5 t6 t7)) ((List.range 4).map enc)
    (fun _ env => ∃ h' t2 t3 t4 t5 t6 t7, env = E10 is h' t2 t3 t4 t5 t6 t7 ∧ GH h')
    (E10 is h0 .emp .emp .emp .emp .emp .emp) ⟨h0, _, _, _, _, _, _, rfl, g0⟩ ?_ ?_
  · obtain ⟨r, k1, h', t2, t3, t4, t5, t6, t7, rfl⟩ := key.ex
    have c1 : F_gaps_of [.tup [.int 1, .int 1, .int 1, .int 5], .int 8, .tup [.int 0, .int 3]] = .ok (.tup [.tup [.int 3, .int 2], .tup []], false) := isRes_eq (by decide +kernel)
    have c2 : F_widest_gap [.tup [.int 1, .int 1, .int 1, .int 5], .int 8, .tup [.int 0, .int 3]] = .ok (.int 3, false) := isRes_eq (by decide +kernel)
    have c3 : F_gaps_of [.tup [.int 2, .int 2], .int 9, .tup [.int 0]] = .ok (.tup [.tup [.int 1]], false) := isRes_eq (by decide +kernel)
    have c4 : F_calmest [.tup [.int 2, .int 2], .int 9] = .ok (.tup [.int 0, .tup [.int 0, .int 1]], false) := isRes_eq (by decide +kernel)
    have c5 : F_calmest [.tup [.int 9], .int 8] = .ok (.non, false) := isRes_eq (by decide +kernel)
    have c6 : F_widest_gap [.tup [.int 2], .int 9, .tup [.int 0]] = .ok (.int 0, false) := isRes_eq (by decide +kernel)
    have n1 : oNe (.tup [.tup [.int 3, .int 2], .tup []]) (.tup [.tup [.int 3, .int 2], .tup []]) = .ok (.bl false, false) := isRes_eq (by decide +kernel)
    have n2 : oNe (.tup [.tup [.int 1]]) (.tup [.tup [.int 1]]) = .ok (.bl false, false) := isRes_eq (by decide +kernel)
    have n3 : oNe (.tup [.int 0, .tup [.int 0, .int 1]]) (.tup [.int 0, .tup [.int 0, .int 1]]) = .ok (.bl false, false) := isRes_eq (by decide +kernel)
    have hd : d_law_k78 = sSeq (sOwn (dCB F__law_hand [(dVar 0)]) 1) (sSeq _ (sSeq _ (sSeq _ (sSeq _ (sSeq _ (sSeq _ (sSeq (sFor (iRng [(dC (.int 4))]) (gN 2) turn78) (sRet (dC (.bl true)))))))))) := rfl
    unfold F_law_k78 runF
    rw [hd]
    simp at hr
    simp [e0, c1, c2, c3, c4, c5, c6, n1, n2, n3, hr, k1]
  · rintro i hi env ⟨h', t2, t3, t4, t5, t6, t7, rfl, g⟩
    rw [List.getElem_map]
    obtain ⟨h2, u3, u4, u5, u6, u7, e, g2⟩ := turn78_all is h' g (.frz (enc (List.range 4)[i])) t3 t4 t5 t6 t7
    generalize (List.range 4)[i] = j at e
    rw [show gN 2 (enc j) (E10 is h' t2 t3 t4 t5 t6 t7) = .ok (E10 is h' (.frz (enc j)) t3 t4 t5 t6 t7) from rfl, res_ok_bind, e]
    exact ⟨_, _, _, _, _, _, _, rfl, g2⟩
  · rintro env ⟨h', t2, t3, t4, t5, t6, t7, rfl, g⟩
    exact ⟨_, _, _, _, _, _, _, rfl⟩
end Lf

namespace K78
open PySem PySem.Spec PyProof.Rows L2 PV
open PySem.W (minD maxD dataLt)
open Lf
def topS (i : Nat) : Stmt := PySem.Challenge.pw_scriptoria_k78_whole_gaps_spread.main.body.getD i (.Pass ⟨0, 0, 0, 0⟩)
section
variable {P : Program} {w : World} {K : PySem.W.Frag} {mg : Str → Option Value} {base : Heap}
abbrev st_is_integer : Stmt := topS 1
theorem sc_is_integer : FnScope ["thing"] ["thing"] (defScope st_is_integer) := ⟨rfl, rfl, rfl, by decide +kernel, rfl, by decide +kernel, by decide +kernel⟩
theorem okf_is_integer {f : Addr} {fd : FuncData} (F : L2.Fun K "is_integer" "is_integer" st_is_integer f fd) (hm : mg "is_integer" = some (.ref f)) (m_isinstance : mg "isinstance" = none) (m_int : mg "int" = none) (m_bool : mg "bool" = none) : FnOk P w K mg base (L2.CX P w) 1 f fd ["thing"] (spP K mg 1 F_is_integer) := by
  refine ok_def (N := ["thing"]) (ps := ["thing"]) (d := d_is_integer) F sc_is_integer (fun cdv A outer s H E PP hr => ?_)
  have U := u_of hr
  have nd := sc_is_integer.nd
  exact (ss_one
    (ss_ret (se_and (v_blt call_isiV s_isi m_isinstance bt_isinstance (v_cons (v_var 0) (v_cons (v_ty m_int bt_int) sa_nil))) (pe_one (se_not (v_blt call_isiV s_isi m_isinstance bt_isinstance (v_cons (v_var 0) (v_cons (v_ty m_bool bt_bool) sa_nil))))))))
theorem ok_is_integer {f : Addr} {fd : FuncData} (F : L2.Fun K "is_integer" "is_integer" st_is_integer f fd) (hm : mg "is_integer" = some (.ref f)) (m_isinstance : mg "isinstance" = none) (m_int : mg "int" = none) (m_bool : mg "bool" = none) : Good P w K mg base "is_integer" 1 ["thing"] F_is_integer := ⟨f, fd, okf_is_integer F hm m_isinstance m_int m_bool, hm, F.kp, F.binds (ps := ["thing"]) fun _ _ _ _ _ _ us hl => match us, hl with | [_], _ => rfl⟩
abbrev st_is_within : Stmt := topS 2
theorem sc_is_within : FnScope ["thing", "low", "high"] ["thing", "low", "high"] (defScope st_is_within) := ⟨rfl, rfl, rfl, by decide +kernel, rfl, by decide +kernel, by decide +kernel⟩
theorem okf_is_within {f : Addr} {fd : FuncData} (F : L2.Fun K "is_within" "is_within" st_is_within f fd) (hm : mg "is_within" = some (.ref f)) (g_is_integer : Good P w K mg base "is_integer" 1 ["thing"] F_is_integer) : FnOk P w K mg base (L2.CX P w) 2 f fd ["thing", "low", "high"] (spP K mg 3 F_is_within) := by
  refine ok_def (N := ["thing", "low", "high"]) (ps := ["thing", "low", "high"]) (d := d_is_within) F sc_is_within (fun cdv A outer s H E PP hr => ?_)
  have U := u_of hr
  have nd := sc_is_within.nd
  exact (ss_one
    (ss_ret (se_and (v_call g_is_integer hr pass_top (v_cons (v_var 0) sa_nil)) (pe_one (se_chain (op_leV (u64 U)) (op_leV (u64 U)) (s_ord fun _ _ => rfl) (s_ord fun _ _ => rfl) (v_var 1) (v_var 0) (v_var 2) (by rfl))))))
theorem ok_is_within {f : Addr} {fd : FuncData} (F : L2.Fun K "is_within" "is_within" st_is_within f fd) (hm : mg "is_within" = some (.ref f)) (g_is_integer : Good P w K mg base "is_integer" 1 ["thing"] F_is_integer) : Good P w K mg base "is_within" 2 ["thing", "low", "high"] F_is_within := ⟨f, fd, okf_is_within F hm g_is_integer, hm, F.kp, F.binds (ps := ["thing", "low", "high"]) fun _ _ _ _ _ _ us hl => match us, hl with | [_, _, _], _ => rfl⟩
abbrev st_is_sized : Stmt := topS 3
theorem sc_is_sized : FnScope ["thing", "low", "high"] ["thing", "low", "high"] (defScope st_is_sized) := ⟨rfl, rfl, rfl, by decide +kernel, rfl, by decide +kernel, by decide +kernel⟩
theorem okf_is_sized {f : Addr} {fd : FuncData} (F : L2.Fun K "is_sized" "is_sized" st_is_sized f fd) (hm : mg "is_sized" = some (.ref f)) (m_isinstance : mg "isinstance" = none) (m_tuple : mg "tuple" = none) (m_len : mg "len" = none) : FnOk P w K mg base (L2.CX P w) 1 f fd ["thing", "low", "high"] (spP K mg 3 F_is_sized) := by
  refine ok_def (N := ["thing", "low", "high"]) (ps := ["thing", "low", "high"]) (d := d_is_sized) F sc_is_sized (fun cdv A outer s H E PP hr => ?_)
  have U := u_of hr
  have nd := sc_is_sized.nd
  exact (ss_one
    (ss_ret (se_and (v_blt call_isiV s_isi m_isinstance bt_isinstance (v_cons (v_var 0) (v_cons (v_ty m_tuple bt_tuple) sa_nil))) (pe_one (se_chain (op_leV (u64 U)) (op_leV (u64 U)) (s_ord fun _ _ => rfl) (s_ord fun _ _ => rfl) (v_var 1) (v_bltS call_lenV s_len m_len bt_len (L2.pv 0)) (v_var 2) (by rfl))))))
theorem ok_is_sized {f : Addr} {fd : FuncData} (F : L2.Fun K "is_sized" "is_sized" st_is_sized f fd) (hm : mg "is_sized" = some (.ref f)) (m_isinstance : mg "isinstance" = none) (m_tuple : mg "tuple" = none) (m_len : mg "len" = none) : Good P w K mg base "is_sized" 1 ["thing", "low", "high"] F_is_sized := ⟨f, fd, okf_is_sized F hm m_isinstance m_tuple m_len, hm, F.kp, F.binds (ps := ["thing", "low", "high"]) fun _ _ _ _ _ _ us hl => match us, hl with | [_, _, _], _ => rfl⟩
abbrev st_check_words : Stmt := topS 13
theorem sc_check_words : FnScope ["words", "one"] ["words"] (defScope st_check_words) := ⟨rfl, rfl, rfl, by decide +kernel, rfl, by decide +kernel, by decide +kernel⟩
theorem okf_check_words {f : Addr} {fd : FuncData} (F : L2.Fun K "check_words" "check_words" st_check_words f fd) (hm : mg "check_words" = some (.ref f)) (g_is_sized : Good P w K mg base "is_sized" 1 ["thing", "low", "high"] F_is_sized) (g_is_within : Good P w K mg base "is_within" 2 ["thing", "low", "high"] F_is_within) (m_all : mg "all" = none) (c_MOST_WORDS : ∃ t, mg "MOST_WORDS" = some (.int 14 t)) (c_MOST_LENGTH : ∃ t, mg "MOST_LENGTH" = some (.int 12 t)) : FnOk P w K mg base (L2.CX P w) 3 f fd ["words"] (spP K mg 1 F_check_words) := by
  refine ok_def (N := ["words", "one"]) (ps := ["words"]) (d := d_check_words) F sc_check_words (fun cdv A outer s H E PP hr => ?_)
  have U := u_of hr
  have nd := sc_check_words.nd
  exact (ss_one
    (ss_if (L2.PW.pt (sw_or (st_not (vt_true (v_call g_is_sized hr pass_top (v_cons (v_var 0) (v_cons se_int (v_cons (v_glI' c_MOST_WORDS) sa_nil)))))) (L2.pw_or1 (st_not (vt_true (v_blt (L2.cr_all rfl) (OpSLR.opl s_all) m_all bt_all (v_cons (v_lc [("one", 1)] nd (v_ival (v_var 0)) (fun s H C cl fp PP => (g_nm 1 nd)) (fun s H C cl fp PP => (v_call g_is_within hr passL (v_cons (v_var 1) (v_cons se_int (v_cons (v_glI' c_MOST_LENGTH) sa_nil)))))) sa_nil))))))) (ss_one
    v_no) ss_nil))
theorem ok_check_words {f : Addr} {fd : FuncData} (F : L2.Fun K "check_words" "check_words" st_check_words f fd) (hm : mg "check_words" = some (.ref f)) (g_is_sized : Good P w K mg base "is_sized" 1 ["thing", "low", "high"] F_is_sized) (g_is_within : Good P w K mg base "is_within" 2 ["thing", "low", "high"] F_is_within) (m_all : mg "all" = none) (c_MOST_WORDS : ∃ t, mg "MOST_WORDS" = some (.int 14 t)) (c_MOST_LENGTH : ∃ t, mg "MOST_LENGTH" = some (.int 12 t)) : Good P w K mg base "check_words" 3 ["words"] F_check_words := ⟨f, fd, okf_check_words F hm g_is_sized g_is_within m_all c_MOST_WORDS c_MOST_LENGTH, hm, F.kp, F.binds (ps := ["words"]) fun _ _ _ _ _ _ us hl => match us, hl with | [_], _ => rfl⟩
abbrev st_check_page : Stmt := topS 14
theorem sc_check_page : FnScope ["words", "w"] ["words", "w"] (defScope st_check_page) := ⟨rfl, rfl, rfl, by decide +kernel, rfl, by decide +kernel, by decide +kernel⟩
theorem okf_check_page {f : Addr} {fd : FuncData} (F : L2.Fun K "check_page" "check_page" st_check_page f fd) (hm : mg "check_page" = some (.ref f)) (g_check_words : Good P w K mg base "check_words" 3 ["words"] F_check_words) (g_is_within : Good P w K mg base "is_within" 2 ["thing", "low", "high"] F_is_within) (c_MOST_WIDTH : ∃ t, mg "MOST_WIDTH" = some (.int 30 t)) : FnOk P w K mg base (L2.CX P w) 4 f fd ["words", "w"] (spP K mg 2 F_check_page) := by
  refine ok_def (N := ["words", "w"]) (ps := ["words", "w"]) (d := d_check_page) F sc_check_page (fun cdv A outer s H E PP hr => ?_)
  have U := u_of hr
  have nd := sc_check_page.nd
  exact (ss_cons (v_expr (v_call g_check_words hr pass_top (v_cons (v_var 0) sa_nil)))
    (ss_one
    (ss_if (st_not (vt_true (v_call g_is_within hr pass_top (v_cons (v_var 1) (v_cons se_int (v_cons (v_glI' c_MOST_WIDTH) sa_nil)))))) (ss_one
    v_no) ss_nil)))
theorem ok_check_page {f : Addr} {fd : FuncData} (F : L2.Fun K "check_page" "check_page" st_check_page f fd) (hm : mg "check_page" = some (.ref f)) (g_check_words : Good P w K mg base "check_words" 3 ["words"] F_check_words) (g_is_within : Good P w K mg base "is_within" 2 ["thing", "low", "high"] F_is_within) (c_MOST_WIDTH : ∃ t, mg "MOST_WIDTH" = some (.int 30 t)) : Good P w K mg base "check_page" 4 ["words", "w"] F_check_page := ⟨f, fd, okf_check_page F hm g_check_words g_is_within c_MOST_WIDTH, hm, F.kp, F.binds (ps := ["words", "w"]) fun _ _ _ _ _ _ us hl => match us, hl with | [_, _], _ => rfl⟩
abbrev st_room_of : Stmt := topS 15
theorem sc_room_of : FnScope ["words", "w", "begin", "end"] ["words", "w", "begin", "end"] (defScope st_room_of) := ⟨rfl, rfl, rfl, by decide +kernel, rfl, by decide +kernel, by decide +kernel⟩
theorem okf_room_of {f : Addr} {fd : FuncData} (F : L2.Fun K "room_of" "room_of" st_room_of f fd) (hm : mg "room_of" = some (.ref f)) (m_sum : mg "sum" = none) : FnOk P w K mg base (L2.CX P w) 1 f fd ["words", "w", "begin", "end"] (spP K mg 4 F_room_of) := by
  refine ok_def (N := ["words", "w", "begin", "end"]) (ps := ["words", "w", "begin", "end"]) (d := d_room_of) F sc_room_of (fun cdv A outer s H E PP hr => ?_)
  have U := u_of hr
  have nd := sc_room_of.nd
  exact (ss_one
    (ss_ret (se_bin L2.op_sub s_sub (se_bin L2.op_sub s_sub (v_var 1) (v_blt (call_sumV rfl) (OpSLR.opl s_sum) m_sum bt_sum (v_cons (v_sl (v_var 0) (so_some (v_var 2)) (so_some (v_var 3))) sa_nil))) (se_bin L2.op_sub s_sub (se_bin L2.op_sub s_sub (v_var 3) (v_var 2)) se_int))))
theorem ok_room_of {f : Addr} {fd : FuncData} (F : L2.Fun K "room_of" "room_of" st_room_of f fd) (hm : mg "room_of" = some (.ref f)) (m_sum : mg "sum" = none) : Good P w K mg base "room_of" 1 ["words", "w", "begin", "end"] F_room_of := ⟨f, fd, okf_room_of F hm m_sum, hm, F.kp, F.binds (ps := ["words", "w", "begin", "end"]) fun _ _ _ _ _ _ us hl => match us, hl with | [_, _, _, _], _ => rfl⟩
abbrev st_lines_of : Stmt := topS 16
theorem sc_lines_of : FnScope ["words", "begins"] ["words", "begins"] (defScope st_lines_of) := ⟨rfl, rfl, rfl, by decide +kernel, rfl, by decide +kernel, by decide +kernel⟩
theorem okf_lines_of {f : Addr} {fd : FuncData} (F : L2.Fun K "lines_of" "lines_of" st_lines_of f fd) (hm : mg "lines_of" = some (.ref f)) (m_len : mg "len" = none) (m_list : mg "list" = none) (m_zip : mg "zip" = none) : FnOk P w K mg base (L2.CX P w) 1 f fd ["words", "begins"] (spP K mg 2 F_lines_of) := by
  refine ok_def (N := ["words", "begins"]) (ps := ["words", "begins"]) (d := d_lines_of) F sc_lines_of (fun cdv A outer s H E PP hr => ?_)
  have U := u_of hr
  have nd := sc_lines_of.nd
  exact (ss_one
    (ss_ret (v_listZip m_list m_zip (v_cons (v_var 1) (v_cons (se_bin op_addV s_add (v_sl (v_var 1) (so_some se_int) so_none) (v_tup (v_cons (v_bltS call_lenV s_len m_len bt_len (L2.pv 0)) sa_nil))) sa_nil)))))
theorem ok_lines_of {f : Addr} {fd : FuncData} (F : L2.Fun K "lines_of" "lines_of" st_lines_of f fd) (hm : mg "lines_of" = some (.ref f)) (m_len : mg "len" = none) (m_list : mg "list" = none) (m_zip : mg "zip" = none) : Good P w K mg base "lines_of" 1 ["words", "begins"] F_lines_of := ⟨f, fd, okf_lines_of F hm m_len m_list m_zip, hm, F.kp, F.binds (ps := ["words", "begins"]) fun _ _ _ _ _ _ us hl => match us, hl with | [_, _], _ => rfl⟩
abbrev st_is_setting_of : Stmt := topS 17
theorem sc_is_setting_of : FnScope ["words", "w", "thing", "begin", "end", "one", "other"] ["words", "w", "thing"] (defScope st_is_setting_of) := ⟨rfl, rfl, rfl, by decide +kernel, rfl, by decide +kernel, by decide +kernel⟩
theorem okf_is_setting_of {f : Addr} {fd : FuncData} (F : L2.Fun K "is_setting_of" "is_setting_of" st_is_setting_of f fd) (hm : mg "is_setting_of" = some (.ref f)) (g_is_sized : Good P w K mg base "is_sized" 1 ["thing", "low", "high"] F_is_sized) (g_is_within : Good P w K mg base "is_within" 2 ["thing", "low", "high"] F_is_within) (g_lines_of : Good P w K mg base "lines_of" 1 ["words", "begins"] F_lines_of) (g_room_of : Good P w K mg base "room_of" 1 ["words", "w", "begin", "end"] F_room_of) (m_len : mg "len" = none) (m_all : mg "all" = none) (m_zip : mg "zip" = none) : FnOk P w K mg base (L2.CX P w) 3 f fd ["words", "w", "thing"] (spP K mg 3 F_is_setting_of) := by
  refine ok_def (N := ["words", "w", "thing", "begin", "end", "one", "other"]) (ps := ["words", "w", "thing"]) (d := d_is_setting_of) F sc_is_setting_of (fun cdv A outer s H E PP hr => ?_)
  have U := u_of hr
  have nd := sc_is_setting_of.nd
  exact (ss_cons (ss_if (L2.PW.pt (sw_or (st_not (vt_true (v_call g_is_sized hr pass_top (v_cons (v_var 2) (v_cons se_int (v_cons (v_bltS call_lenV s_len m_len bt_len (L2.pv 0)) sa_nil)))))) (L2.pw_or1 (st_not (vt_true (v_blt (L2.cr_all rfl) (OpSLR.opl s_all) m_all bt_all (v_cons (v_lc [("one", 5)] nd (v_ival (v_var 2)) (fun s H C cl fp PP => (g_nm 5 nd)) (fun s H C cl fp PP => (v_call g_is_within hr passL (v_cons (v_var 5) (v_cons se_int (v_cons (se_bin L2.op_sub s_sub (v_bltS call_lenV s_len m_len bt_len (L2.pv 0)) se_int) sa_nil)))))) sa_nil))))))) (ss_one
    (ss_ret se_bl)) ss_nil)
    (ss_cons (ss_if (L2.PW.pt (sw_or (vt_cmp (L2.op_neD (u64 U)) s_ne (v_ixS U (L2.pv 2) se_int) se_int) (L2.pw_or1 (st_not (vt_true (v_blt (L2.cr_all rfl) (OpSLR.opl s_all) m_all bt_all (v_cons (v_lc [("one", 5), ("other", 6)] nd (v_zip m_zip (v_cons (v_var 2) (v_cons (v_sl (v_var 2) (so_some se_int) so_none) sa_nil))) (fun s H C cl fp PP => (g_tup (g_cons (g_nm 5 nd) (g_cons (g_nm 6 nd) sgs_nil)))) (fun s H C cl fp PP => (v_cmp (op_ltV (u64 U)) (s_ord fun _ _ => rfl) (v_var 5) (v_var 6)))) sa_nil))))))) (ss_one
    (ss_ret se_bl)) ss_nil)
    (ss_one
    (ss_ret (v_blt (L2.cr_all rfl) (OpSLR.opl s_all) m_all bt_all (v_cons (v_lc [("begin", 3), ("end", 4)] nd (v_ival (v_call g_lines_of hr pass_top (v_cons (v_var 0) (v_cons (v_var 2) sa_nil)))) (fun s H C cl fp PP => (g_tup (g_cons (g_nm 3 nd) (g_cons (g_nm 4 nd) sgs_nil)))) (fun s H C cl fp PP => (v_cmp (op_geV (u64 U)) (s_ord fun _ _ => rfl) (v_call g_room_of hr passL (v_cons (v_var 0) (v_cons (v_var 1) (v_cons (v_var 3) (v_cons (v_var 4) sa_nil))))) se_int))) sa_nil))))))
theorem ok_is_setting_of {f : Addr} {fd : FuncData} (F : L2.Fun K "is_setting_of" "is_setting_of" st_is_setting_of f fd) (hm : mg "is_setting_of" = some (.ref f)) (g_is_sized : Good P w K mg base "is_sized" 1 ["thing", "low", "high"] F_is_sized) (g_is_within : Good P w K mg base "is_within" 2 ["thing", "low", "high"] F_is_within) (g_lines_of : Good P w K mg base "lines_of" 1 ["words", "begins"] F_lines_of) (g_room_of : Good P w K mg base "room_of" 1 ["words", "w", "begin", "end"] F_room_of) (m_len : mg "len" = none) (m_all : mg "all" = none) (m_zip : mg "zip" = none) : Good P w K mg base "is_setting_of" 3 ["words", "w", "thing"] F_is_setting_of := ⟨f, fd, okf_is_setting_of F hm g_is_sized g_is_within g_lines_of g_room_of m_len m_all m_zip, hm, F.kp, F.binds (ps := ["words", "w", "thing"]) fun _ _ _ _ _ _ us hl => match us, hl with | [_, _, _], _ => rfl⟩
abbrev st_check_setting : Stmt := topS 18
theorem sc_check_setting : FnScope ["words", "w", "begins"] ["words", "w", "begins"] (defScope st_check_setting) := ⟨rfl, rfl, rfl, by decide +kernel, rfl, by decide +kernel, by decide +kernel⟩
theorem okf_check_setting {f : Addr} {fd : FuncData} (F : L2.Fun K "check_setting" "check_setting" st_check_setting f fd) (hm : mg "check_setting" = some (.ref f)) (g_check_page : Good P w K mg base "check_page" 4 ["words", "w"] F_check_page) (g_is_setting_of : Good P w K mg base "is_setting_of" 3 ["words", "w", "thing"] F_is_setting_of) : FnOk P w K mg base (L2.CX P w) 5 f fd ["words", "w", "begins"] (spP K mg 3 F_check_setting) := by
  refine ok_def (N := ["words", "w", "begins"]) (ps := ["words", "w", "begins"]) (d := d_check_setting) F sc_check_setting (fun cdv A outer s H E PP hr => ?_)
  have U := u_of hr
  have nd := sc_check_setting.nd
  exact (ss_cons (v_expr (v_call g_check_page hr pass_top (v_cons (v_var 0) (v_cons (v_var 1) sa_nil))))
    (ss_one
    (ss_if (st_not (vt_true (v_call g_is_setting_of hr pass_top (v_cons (v_var 0) (v_cons (v_var 1) (v_cons (v_var 2) sa_nil)))))) (ss_one
    v_no) ss_nil)))
theorem ok_check_setting {f : Addr} {fd : FuncData} (F : L2.Fun K "check_setting" "check_setting" st_check_setting f fd) (hm : mg "check_setting" = some (.ref f)) (g_check_page : Good P w K mg base "check_page" 4 ["words", "w"] F_check_page) (g_is_setting_of : Good P w K mg base "is_setting_of" 3 ["words", "w", "thing"] F_is_setting_of) : Good P w K mg base "check_setting" 5 ["words", "w", "begins"] F_check_setting := ⟨f, fd, okf_check_setting F hm g_check_page g_is_setting_of, hm, F.kp, F.binds (ps := ["words", "w", "begins"]) fun _ _ _ _ _ _ us hl => match us, hl with | [_, _, _], _ => rfl⟩
abbrev st_line_gaps : Stmt := topS 19
theorem sc_line_gaps : FnScope ["words", "w", "begin", "end", "many", "room", "gap"] ["words", "w", "begin", "end"] (defScope st_line_gaps) := ⟨rfl, rfl, rfl, by decide +kernel, rfl, by decide +kernel, by decide +kernel⟩
theorem okf_line_gaps {f : Addr} {fd : FuncData} (F : L2.Fun K "line_gaps" "line_gaps" st_line_gaps f fd) (hm : mg "line_gaps" = some (.ref f)) (g_room_of : Good P w K mg base "room_of" 1 ["words", "w", "begin", "end"] F_room_of) (m_len : mg "len" = none) (m_tuple : mg "tuple" = none) (m_range : mg "range" = none) (m_int : mg "int" = none) : FnOk P w K mg base (L2.CX P w) 2 f fd ["words", "w", "begin", "end"] (spP K mg 4 F_line_gaps) := by
  refine ok_def (N := ["words", "w", "begin", "end", "many", "room", "gap"]) (ps := ["words", "w", "begin", "end"]) (d := d_line_gaps) F sc_line_gaps (fun cdv A outer s H E PP hr => ?_)
  have U := u_of hr
  have nd := sc_line_gaps.nd
  exact (ss_cons (v_set 4 nd (se_bin L2.op_sub s_sub (se_bin L2.op_sub s_sub (v_var 3) (v_var 2)) se_int))
    (ss_cons (ss_if (vt_cmp (L2.op_eqD (u64 U)) s_eq (v_var 4) se_int) (ss_one
    (ss_ret (v_tup sa_nil))) ss_nil)
    (ss_cons (ss_if (vt_cmp (L2.op_eqD (u64 U)) s_eq (v_var 3) (v_bltS call_lenV s_len m_len bt_len (L2.pv 0))) (ss_one
    (ss_ret (se_bin op_mulV s_mul (v_tup (v_cons se_int sa_nil)) (v_var 4)))) ss_nil)
    (ss_cons (v_set 5 nd (v_call g_room_of hr pass_top (v_cons (v_var 0) (v_cons (v_var 1) (v_cons (v_var 2) (v_cons (v_var 3) sa_nil))))))
    (ss_one
    (ss_ret (v_bty L2.call_tuple_of (OpSLR.opl s_tuple) m_tuple bt_tuple (v_cons (v_lc [("gap", 6)] nd (v_rng1 m_range (v_cons (v_var 4) sa_nil)) (fun s H C cl fp PP => (g_nm 6 nd)) (fun s H C cl fp PP => (se_bin op_addV s_add (se_bin op_addV s_add se_int (se_bin L2.op_fdiv s_div (v_var 5) (v_var 4))) (v_bty L2.call_int1 (OpSLR.opl s_int) m_int bt_int (v_cons (v_cmp (op_ltV (u64 U)) (s_ord fun _ _ => rfl) (v_var 6) (se_bin L2.op_mod s_mod (v_var 5) (v_var 4))) sa_nil))))) sa_nil))))))))
theorem ok_line_gaps {f : Addr} {fd : FuncData} (F : L2.Fun K "line_gaps" "line_gaps" st_line_gaps f fd) (hm : mg "line_gaps" = some (.ref f)) (g_room_of : Good P w K mg base "room_of" 1 ["words", "w", "begin", "end"] F_room_of) (m_len : mg "len" = none) (m_tuple : mg "tuple" = none) (m_range : mg "range" = none) (m_int : mg "int" = none) : Good P w K mg base "line_gaps" 2 ["words", "w", "begin", "end"] F_line_gaps := ⟨f, fd, okf_line_gaps F hm g_room_of m_len m_tuple m_range m_int, hm, F.kp, F.binds (ps := ["words", "w", "begin", "end"]) fun _ _ _ _ _ _ us hl => match us, hl with | [_, _, _, _], _ => rfl⟩
abbrev st_all_gaps : Stmt := topS 20
theorem sc_all_gaps : FnScope ["words", "w", "begins", "begin", "end"] ["words", "w", "begins"] (defScope st_all_gaps) := ⟨rfl, rfl, rfl, by decide +kernel, rfl, by decide +kernel, by decide +kernel⟩
theorem okf_all_gaps {f : Addr} {fd : FuncData} (F : L2.Fun K "all_gaps" "all_gaps" st_all_gaps f fd) (hm : mg "all_gaps" = some (.ref f)) (g_lines_of : Good P w K mg base "lines_of" 1 ["words", "begins"] F_lines_of) (g_line_gaps : Good P w K mg base "line_gaps" 2 ["words", "w", "begin", "end"] F_line_gaps) : FnOk P w K mg base (L2.CX P w) 3 f fd ["words", "w", "begins"] (spP K mg 3 F_all_gaps) := by
  refine ok_def (N := ["words", "w", "begins", "begin", "end"]) (ps := ["words", "w", "begins"]) (d := d_all_gaps) F sc_all_gaps (fun cdv A outer s H E PP hr => ?_)
  have U := u_of hr
  have nd := sc_all_gaps.nd
  exact (ss_one
    (ss_ret (v_lc [("begin", 3), ("end", 4)] nd (v_ival (v_call g_lines_of hr pass_top (v_cons (v_var 0) (v_cons (v_var 2) sa_nil)))) (fun s H C cl fp PP => (g_tup (g_cons (g_nm 3 nd) (g_cons (g_nm 4 nd) sgs_nil)))) (fun s H C cl fp PP => (v_call g_line_gaps hr passL (v_cons (v_var 0) (v_cons (v_var 1) (v_cons (v_var 3) (v_cons (v_var 4) sa_nil)))))))))
theorem ok_all_gaps {f : Addr} {fd : FuncData} (F : L2.Fun K "all_gaps" "all_gaps" st_all_gaps f fd) (hm : mg "all_gaps" = some (.ref f)) (g_lines_of : Good P w K mg base "lines_of" 1 ["words", "begins"] F_lines_of) (g_line_gaps : Good P w K mg base "line_gaps" 2 ["words", "w", "begin", "end"] F_line_gaps) : Good P w K mg base "all_gaps" 3 ["words", "w", "begins"] F_all_gaps := ⟨f, fd, okf_all_gaps F hm g_lines_of g_line_gaps, hm, F.kp, F.binds (ps := ["words", "w", "begins"]) fun _ _ _ _ _ _ us hl => match us, hl with | [_, _, _], _ => rfl⟩
abbrev st_gaps_of : Stmt := topS 21
theorem sc_gaps_of : FnScope ["words", "w", "begins"] ["words", "w", "begins"] (defScope st_gaps_of) := ⟨rfl, rfl, rfl, by decide +kernel, rfl, by decide +kernel, by decide +kernel⟩
theorem okf_gaps_of {f : Addr} {fd : FuncData} (F : L2.Fun K "gaps_of" "gaps_of" st_gaps_of f fd) (hm : mg "gaps_of" = some (.ref f)) (g_check_setting : Good P w K mg base "check_setting" 5 ["words", "w", "begins"] F_check_setting) (g_all_gaps : Good P w K mg base "all_gaps" 3 ["words", "w", "begins"] F_all_gaps) (m_tuple : mg "tuple" = none) : FnOk P w K mg base (L2.CX P w) 6 f fd ["words", "w", "begins"] (spP K mg 3 F_gaps_of) := by
  refine ok_def (N := ["words", "w", "begins"]) (ps := ["words", "w", "begins"]) (d := d_gaps_of) F sc_gaps_of (fun cdv A outer s H E PP hr => ?_)
  have U := u_of hr
  have nd := sc_gaps_of.nd
  exact (ss_cons (v_expr (v_call g_check_setting hr pass_top (v_cons (v_var 0) (v_cons (v_var 1) (v_cons (v_var 2) sa_nil)))))
    (ss_one
    (ss_ret (v_bty L2.call_tuple_of (OpSLR.opl s_tuple) m_tuple bt_tuple (v_cons (v_call g_all_gaps hr pass_top (v_cons (v_var 0) (v_cons (v_var 1) (v_cons (v_var 2) sa_nil)))) sa_nil)))))
theorem ok_gaps_of {f : Addr} {fd : FuncData} (F : L2.Fun K "gaps_of" "gaps_of" st_gaps_of f fd) (hm : mg "gaps_of" = some (.ref f)) (g_check_setting : Good P w K mg base "check_setting" 5 ["words", "w", "begins"] F_check_setting) (g_all_gaps : Good P w K mg base "all_gaps" 3 ["words", "w", "begins"] F_all_gaps) (m_tuple : mg "tuple" = none) : Good P w K mg base "gaps_of" 6 ["words", "w", "begins"] F_gaps_of := ⟨f, fd, okf_gaps_of F hm g_check_setting g_all_gaps m_tuple, hm, F.kp, F.binds (ps := ["words", "w", "begins"]) fun _ _ _ _ _ _ us hl => match us, hl with | [_, _, _], _ => rfl⟩
abbrev st_widest_gap : Stmt := topS 22
theorem sc_widest_gap : FnScope ["words", "w", "begins", "gaps"] ["words", "w", "begins"] (defScope st_widest_gap) := ⟨rfl, rfl, rfl, by decide +kernel, rfl, by decide +kernel, by decide +kernel⟩
theorem okf_widest_gap {f : Addr} {fd : FuncData} (F : L2.Fun K "widest_gap" "widest_gap" st_widest_gap f fd) (hm : mg "widest_gap" = some (.ref f)) (g_check_setting : Good P w K mg base "check_setting" 5 ["words", "w", "begins"] F_check_setting) (g_all_gaps : Good P w K mg base "all_gaps" 3 ["words", "w", "begins"] F_all_gaps) (m_max : mg "max" = none) (m_len : mg "len" = none) : FnOk P w K mg base (L2.CX P w) 6 f fd ["words", "w", "begins"] (spP K mg 3 F_widest_gap) := by
  refine ok_def (N := ["words", "w", "begins", "gaps"]) (ps := ["words", "w", "begins"]) (d := d_widest_gap) F sc_widest_gap (fun cdv A outer s H E PP hr => ?_)
  have U := u_of hr
  have nd := sc_widest_gap.nd
  exact (ss_cons (v_expr (v_call g_check_setting hr pass_top (v_cons (v_var 0) (v_cons (v_var 1) (v_cons (v_var 2) sa_nil)))))
    (ss_one
    (ss_ret (v_blt (call_maxV rfl (u64 U)) (OpSLR.opl s_max) m_max bt_max (v_cons (se_bin op_addV s_add (v_lst (v_cons se_int sa_nil)) (v_lcIf [("gaps", 3)] nd (v_ival (v_call g_all_gaps hr pass_top (v_cons (v_var 0) (v_cons (v_var 1) (v_cons (v_var 2) sa_nil))))) (fun s H C cl fp PP => (g_nm 3 nd)) (fun s H C cl fp PP => (vt_cmp (op_gtV (u64 U)) (s_ord fun _ _ => rfl) (v_bltS call_lenV s_len m_len bt_len (L2.pv 3)) se_int)) (fun s H C cl fp PP => (v_bltS (call_maxV rfl (u64 U)) s_max m_max bt_max (L2.pv 3))))) sa_nil)))))
theorem ok_widest_gap {f : Addr} {fd : FuncData} (F : L2.Fun K "widest_gap" "widest_gap" st_widest_gap f fd) (hm : mg "widest_gap" = some (.ref f)) (g_check_setting : Good P w K mg base "check_setting" 5 ["words", "w", "begins"] F_check_setting) (g_all_gaps : Good P w K mg base "all_gaps" 3 ["words", "w", "begins"] F_all_gaps) (m_max : mg "max" = none) (m_len : mg "len" = none) : Good P w K mg base "widest_gap" 6 ["words", "w", "begins"] F_widest_gap := ⟨f, fd, okf_widest_gap F hm g_check_setting g_all_gaps m_max m_len, hm, F.kp, F.binds (ps := ["words", "w", "begins"]) fun _ _ _ _ _ _ us hl => match us, hl with | [_, _, _], _ => rfl⟩
abbrev st_calmest : Stmt := topS 23
theorem sc_calmest : FnScope ["words", "w", "most", "found", "begin", "some", "end"] ["words", "w"] (defScope st_calmest) := ⟨rfl, rfl, rfl, by decide +kernel, rfl, by decide +kernel, by decide +kernel⟩
theorem okf_calmest {f : Addr} {fd : FuncData} (F : L2.Fun K "calmest" "calmest" st_calmest f fd) (hm : mg "calmest" = some (.ref f)) (g_check_page : Good P w K mg base "check_page" 4 ["words", "w"] F_check_page) (g_room_of : Good P w K mg base "room_of" 1 ["words", "w", "begin", "end"] F_room_of) (g_line_gaps : Good P w K mg base "line_gaps" 2 ["words", "w", "begin", "end"] F_line_gaps) (m_max : mg "max" = none) (m_range : mg "range" = none) (m_len : mg "len" = none) (m_min : mg "min" = none) (c_MOST_WIDTH : ∃ t, mg "MOST_WIDTH" = some (.int 30 t)) : FnOk P w K mg base (L2.CX P w) 5 f fd ["words", "w"] (spP K mg 2 F_calmest) := by
  refine ok_def (N := ["words", "w", "most", "found", "begin", "some", "end"]) (ps := ["words", "w"]) (d := d_calmest) F sc_calmest (fun cdv A outer s H E PP hr => ?_)
  have U := u_of hr
  have nd := sc_calmest.nd
  exact (ss_cons (v_expr (v_call g_check_page hr pass_top (v_cons (v_var 0) (v_cons (v_var 1) sa_nil))))
    (ss_cons (ss_if (vt_cmp (op_gtV (u64 U)) (s_ord fun _ _ => rfl) (v_bltS (call_maxV rfl (u64 U)) s_max m_max bt_max (L2.pv 0)) (v_var 1)) (ss_one
    (ss_ret se_non)) ss_nil)
    (ss_cons (v_for own_top (v_rng1 m_range (v_cons (se_bin op_addV s_add (v_glI' c_MOST_WIDTH) se_int) sa_nil)) (g_nm 2 nd) (ss_cons (v_set 3 nd (se_bin op_addV s_add (se_bin op_mulV s_mul (v_lst (v_cons se_non sa_nil)) (v_bltS call_lenV s_len m_len bt_len (L2.pv 0))) (v_lst (v_cons (v_tup sa_nil) sa_nil))))
    (ss_cons (v_for own_top (v_rng3 m_range (v_cons (se_bin L2.op_sub s_sub (v_bltS call_lenV s_len m_len bt_len (L2.pv 0)) se_int) (v_cons (se_un L2.un_neg s_neg se_int) (v_cons (se_un L2.un_neg s_neg se_int) sa_nil)))) (g_nm 4 nd) (ss_cons (v_set 5 nd (v_lst sa_nil))
    (ss_cons (v_for own_top (v_rng2 m_range (v_cons (se_bin op_addV s_add (v_var 4) se_int) (v_cons (se_bin op_addV s_add (v_bltS call_lenV s_len m_len bt_len (L2.pv 0)) se_int) sa_nil))) (g_nm 6 nd) (ss_one
    (ss_if (L2.PW.pt (sw_and (vt_cmp op_isNotV s_isNot (v_ixS U (L2.pv 3) (v_var 6)) se_non) (L2.pw_and1 (vt_cmp (op_geV (u64 U)) (s_ord fun _ _ => rfl) (v_call g_room_of hr pass_top (v_cons (v_var 0) (v_cons (v_var 1) (v_cons (v_var 4) (v_cons (v_var 6) sa_nil))))) se_int)))) (ss_one
    (ss_if (vt_cmp (op_leV (u64 U)) (s_ord fun _ _ => rfl) (v_blt (call_maxV rfl (u64 U)) (OpSLR.opl s_max) m_max bt_max (v_cons (se_bin op_addV s_add (v_tup (v_cons se_int sa_nil)) (v_call g_line_gaps hr pass_top (v_cons (v_var 0) (v_cons (v_var 1) (v_cons (v_var 4) (v_cons (v_var 6) sa_nil)))))) sa_nil)) (v_var 2)) (ss_one
    (v_expr (v_app (L2.pv 5) (se_bin op_addV s_add (v_tup (v_cons (v_var 4) sa_nil)) (v_ixS U (L2.pv 3) (v_var 6)))))) ss_nil)) ss_nil)))
    (ss_one
    (v_setIx U (L2.pv 3) (v_var 4) (se_if (vt_cmp (op_gtV (u64 U)) (s_ord fun _ _ => rfl) (v_bltS call_lenV s_len m_len bt_len (L2.pv 5)) se_int) (v_bltS (call_minV rfl (u64 U)) s_min m_min bt_min (L2.pv 5)) se_non))))))
    (ss_one
    (ss_if (vt_cmp op_isNotV s_isNot (v_ixS U (L2.pv 3) se_int) se_non) (ss_one
    (ss_ret (v_tup (v_cons (v_var 2) (v_cons (v_ixS U (L2.pv 3) se_int) sa_nil))))) ss_nil)))))
    (ss_one
    (ss_ret se_non)))))
theorem ok_calmest {f : Addr} {fd : FuncData} (F : L2.Fun K "calmest" "calmest" st_calmest f fd) (hm : mg "calmest" = some (.ref f)) (g_check_page : Good P w K mg base "check_page" 4 ["words", "w"] F_check_page) (g_room_of : Good P w K mg base "room_of" 1 ["words", "w", "begin", "end"] F_room_of) (g_line_gaps : Good P w K mg base "line_gaps" 2 ["words", "w", "begin", "end"] F_line_gaps) (m_max : mg "max" = none) (m_range : mg "range" = none) (m_len : mg "len" = none) (m_min : mg "min" = none) (c_MOST_WIDTH : ∃ t, mg "MOST_WIDTH" = some (.int 30 t)) : Good P w K mg base "calmest" 5 ["words", "w"] F_calmest := ⟨f, fd, okf_calmest F hm g_check_page g_room_of g_line_gaps m_max m_range m_len m_min c_MOST_WIDTH, hm, F.kp, F.binds (ps := ["words", "w"]) fun _ _ _ _ _ _ us hl => match us, hl with | [_, _], _ => rfl⟩
abbrev st__law_hand : Stmt := topS 25
theorem sc__law_hand : FnScope ["script", "cells", "cell"] ["script"] (defScope st__law_hand) := ⟨rfl, rfl, rfl, by decide +kernel, rfl, by decide +kernel, by decide +kernel⟩
theorem okf__law_hand {f : Addr} {fd : FuncData} (F : L2.Fun K "_law_hand" "_law_hand" st__law_hand f fd) (hm : mg "_law_hand" = some (.ref f)) (m_abs : mg "abs" = none) (m_int : mg "int" = none) (m_len : mg "len" = none) : FnOk P w K mg base (L2.CX P w) 1 f fd ["script"] (spP K mg 1 F__law_hand) := by
  refine ok_def (N := ["script", "cells", "cell"]) (ps := ["script"]) (d := d__law_hand) F sc__law_hand (fun cdv A outer s H E PP hr => ?_)
  have U := u_of hr
  have nd := sc__law_hand.nd
  exact (ss_cons (v_setLc [("cell", 2)] nd (v_ival (v_sl (v_var 0) so_none (so_some se_int))) (fun s H C cl fp PP => (g_nm 2 nd)) (fun s H C cl fp PP => (v_blt L2.call_abs (OpSLR.opl s_abs) m_abs bt_abs (v_cons (v_bty L2.call_int1 (OpSLR.opl s_int) m_int bt_int (v_cons (v_var 2) sa_nil)) sa_nil))))
    (ss_one
    (ss_ret (v_lst (v_cons (v_var 1) (v_cons se_int (v_cons se_int (v_cons (se_bin op_addV s_add se_int (se_bin op_mulV s_mul se_int (v_bltS call_lenV s_len m_len bt_len (L2.pv 1)))) (v_cons se_int sa_nil)))))))))
theorem ok__law_hand {f : Addr} {fd : FuncData} (F : L2.Fun K "_law_hand" "_law_hand" st__law_hand f fd) (hm : mg "_law_hand" = some (.ref f)) (m_abs : mg "abs" = none) (m_int : mg "int" = none) (m_len : mg "len" = none) : Good P w K mg base "_law_hand" 1 ["script"] F__law_hand := ⟨f, fd, okf__law_hand F hm m_abs m_int m_len, hm, F.kp, F.binds (ps := ["script"]) fun _ _ _ _ _ _ us hl => match us, hl with | [_], _ => rfl⟩
abbrev st__law_draw : Stmt := topS 26
theorem sc__law_draw : FnScope ["hand", "many", "number", "cell", "digit"] ["hand", "many"] (defScope st__law_draw) := ⟨rfl, rfl, rfl, by decide +kernel, rfl, by decide +kernel, by decide +kernel⟩
theorem okf__law_draw {f : Addr} {fd : FuncData} (F : L2.Fun K "_law_draw" "_law_draw" st__law_draw f fd) (hm : mg "_law_draw" = some (.ref f)) (m_len : mg "len" = none) (m_int : mg "int" = none) : FnOk P w K mg base (L2.CX P w) 1 f fd ["hand", "many"] (spH K 2 F__law_draw) := by
  refine ok_defH (N := ["hand", "many", "number", "cell", "digit"]) (ps := ["hand", "many"]) (d := d__law_draw) F sc__law_draw (fun cdv A outer s H E PP a hr => ?_)
  have U := u_of hr
  have nd := sc__law_draw.nd
  exact (ss_cons (ss_if (L2.PW.pt (sw_and (vt_cmp (L2.op_eqD (u64 U)) s_eq (v_ixS U (L2.pv 0) se_int) se_int) (L2.pw_and1 (vt_cmp (op_ltV (u64 U)) (s_ord fun _ _ => rfl) (v_ixS U (L2.pv 0) se_int) (v_blt call_lenV (OpSLR.opl s_len) m_len bt_len (v_cons (v_ixS U (L2.pv 0) se_int) sa_nil)))))) (ss_cons (v_set 3 nd (v_ix U (v_ixS U (L2.pv 0) se_int) (v_ixS U (L2.pv 0) se_int)))
    (ss_cons (v_setIx U (L2.pv 0) se_int (se_bin op_addV s_add (v_ixS U (L2.pv 0) se_int) se_int))
    (ss_cons (v_setIx U (L2.pv 0) se_int (se_bin L2.op_mod s_mod (v_bty L2.call_int1 (OpSLR.opl s_int) m_int bt_int (v_cons (se_bin op_addV s_add (se_bin op_addV s_add (se_bin op_mulV s_mul (v_ixS U (L2.pv 0) se_int) se_int) (se_bin op_mulV s_mul (v_var 3) se_int)) se_int) sa_nil)) se_int))
    (ss_one
    (v_setIx U (L2.pv 0) se_int (se_if (vt_cmp (op_geV (u64 U)) (s_ord fun _ _ => rfl) (v_var 3) (se_bin L2.op_pow s_pow se_int se_int)) (v_var 3) se_int)))))) ss_nil)
    (ss_cons (ss_if (vt_cmp (op_gtV (u64 U)) (s_ord fun _ _ => rfl) (v_ixS U (L2.pv 0) se_int) se_int) (ss_cons (v_set 4 nd (se_bin L2.op_mod s_mod (v_bty L2.call_int1 (OpSLR.opl s_int) m_int bt_int (v_cons (v_ixS U (L2.pv 0) se_int) sa_nil)) (v_var 1)))
    (ss_cons (v_setIx U (L2.pv 0) se_int (se_bin L2.op_fdiv s_div (v_ixS U (L2.pv 0) se_int) (v_var 1)))
    (ss_one
    (ss_retF (v_var 4))))) ss_nil)
    (ss_cons (v_setIx U (L2.pv 0) se_int (se_bin op_addV s_add (v_ixS U (L2.pv 0) se_int) se_int))
    (ss_cons (v_set 2 nd (se_bin L2.op_mod s_mod (v_bty L2.call_int1 (OpSLR.opl s_int) m_int bt_int (v_cons (se_bin op_mulV s_mul (v_bty L2.call_int1 (OpSLR.opl s_int) m_int bt_int (v_cons (se_bin op_addV s_add (v_ixS U (L2.pv 0) se_int) (se_bin op_mulV s_mul se_int (v_ixS U (L2.pv 0) se_int))) sa_nil)) se_int) sa_nil)) se_int))
    (ss_cons (v_set 2 nd (se_bin L2.op_mod s_mod (v_bty L2.call_int1 (OpSLR.opl s_int) m_int bt_int (v_cons (se_bin op_mulV s_mul (v_var 2) (se_bin op_addV s_add (se_bin L2.op_fdiv s_div (v_var 2) se_int) se_int)) sa_nil)) se_int))
    (ss_cons (v_set 2 nd (se_bin L2.op_mod s_mod (v_bty L2.call_int1 (OpSLR.opl s_int) m_int bt_int (v_cons (se_bin op_mulV s_mul (v_var 2) (se_bin op_addV s_add (se_bin L2.op_fdiv s_div (v_var 2) se_int) se_int)) sa_nil)) se_int))
    (ss_one
    (ss_retF (se_bin L2.op_mod s_mod (v_bty L2.call_int1 (OpSLR.opl s_int) m_int bt_int (v_cons (se_bin L2.op_fdiv s_div (v_var 2) se_int) sa_nil)) (v_var 1))))))))))
theorem ok__law_draw {f : Addr} {fd : FuncData} (F : L2.Fun K "_law_draw" "_law_draw" st__law_draw f fd) (hm : mg "_law_draw" = some (.ref f)) (m_len : mg "len" = none) (m_int : mg "int" = none) : GoodH P w K mg base "_law_draw" 1 ["hand", "many"] F__law_draw := ⟨f, fd, okf__law_draw F hm m_len m_int, hm, F.kp, F.binds (ps := ["hand", "many"]) fun _ _ _ _ _ _ us hl => match us, hl with | [_, _], _ => rfl⟩
abbrev st__law_some : Stmt := topS 27
theorem sc__law_some : FnScope ["hand", "things"] ["hand", "things"] (defScope st__law_some) := ⟨rfl, rfl, rfl, by decide +kernel, rfl, by decide +kernel, by decide +kernel⟩
theorem okf__law_some {f : Addr} {fd : FuncData} (F : L2.Fun K "_law_some" "_law_some" st__law_some f fd) (hm : mg "_law_some" = some (.ref f)) (g__law_draw : GoodH P w K mg base "_law_draw" 1 ["hand", "many"] F__law_draw) (m_len : mg "len" = none) : FnOk P w K mg base (L2.CX P w) 2 f fd ["hand", "things"] (spH K 2 F__law_some) := by
  refine ok_defH (N := ["hand", "things"]) (ps := ["hand", "things"]) (d := d__law_some) F sc__law_some (fun cdv A outer s H E PP a hr => ?_)
  have U := u_of hr
  have nd := sc__law_some.nd
  exact (ss_one
    (ss_retF (v_ixS U (L2.pv 1) (v_callH g__law_draw hr pass_top (L2.pv 0) (v_cons (v_bltS call_lenV s_len m_len bt_len (L2.pv 1)) sa_nil)))))
theorem ok__law_some {f : Addr} {fd : FuncData} (F : L2.Fun K "_law_some" "_law_some" st__law_some f fd) (hm : mg "_law_some" = some (.ref f)) (g__law_draw : GoodH P w K mg base "_law_draw" 1 ["hand", "many"] F__law_draw) (m_len : mg "len" = none) : GoodH P w K mg base "_law_some" 2 ["hand", "things"] F__law_some := ⟨f, fd, okf__law_some F hm g__law_draw m_len, hm, F.kp, F.binds (ps := ["hand", "things"]) fun _ _ _ _ _ _ us hl => match us, hl with | [_, _], _ => rfl⟩
abbrev st__law_words : Stmt := topS 28
theorem sc__law_words : FnScope ["hand", "most", "word"] ["hand", "most"] (defScope st__law_words) := ⟨rfl, rfl, rfl, by decide +kernel, rfl, by decide +kernel, by decide +kernel⟩
theorem okf__law_words {f : Addr} {fd : FuncData} (F : L2.Fun K "_law_words" "_law_words" st__law_words f fd) (hm : mg "_law_words" = some (.ref f)) (g__law_draw : GoodH P w K mg base "_law_draw" 1 ["hand", "many"] F__law_draw) (g__law_some : GoodH P w K mg base "_law_some" 2 ["hand", "things"] F__law_some) (m_tuple : mg "tuple" = none) (m_range : mg "range" = none) : FnOk P w K mg base (L2.CX P w) 3 f fd ["hand", "most"] (spH K 2 F__law_words) := by
  refine ok_defH (N := ["hand", "most", "word"]) (ps := ["hand", "most"]) (d := d__law_words) F sc__law_words (fun cdv A outer s H E PP a hr => ?_)
  have U := u_of hr
  have nd := sc__law_words.nd
  exact (ss_one
    (ss_retF (v_bty L2.call_tuple_of (OpSLR.opl s_tuple) m_tuple bt_tuple (v_cons (v_lc [("word", 2)] nd (v_rng1 m_range (v_cons (se_bin op_addV s_add se_int (v_callH g__law_draw hr pass_top (L2.pv 0) (v_cons (v_var 1) sa_nil))) sa_nil)) (fun s H C cl fp PP => (g_nm 2 nd)) (fun s H C cl fp PP => (se_bin op_addV s_add se_int (v_callH g__law_draw hr passL (L2.pv 0) (v_cons (v_callH g__law_some hr passL (L2.pv 0) (v_cons (v_lst (v_cons se_int (v_cons se_int sa_nil))) sa_nil)) sa_nil))))) sa_nil))))
theorem ok__law_words {f : Addr} {fd : FuncData} (F : L2.Fun K "_law_words" "_law_words" st__law_words f fd) (hm : mg "_law_words" = some (.ref f)) (g__law_draw : GoodH P w K mg base "_law_draw" 1 ["hand", "many"] F__law_draw) (g__law_some : GoodH P w K mg base "_law_some" 2 ["hand", "things"] F__law_some) (m_tuple : mg "tuple" = none) (m_range : mg "range" = none) : GoodH P w K mg base "_law_words" 3 ["hand", "most"] F__law_words := ⟨f, fd, okf__law_words F hm g__law_draw g__law_some m_tuple m_range, hm, F.kp, F.binds (ps := ["hand", "most"]) fun _ _ _ _ _ _ us hl => match us, hl with | [_, _], _ => rfl⟩
abbrev st__law_long : Stmt := topS 29
theorem sc__law_long : FnScope ["words", "first", "behind"] ["words", "first", "behind"] (defScope st__law_long) := ⟨rfl, rfl, rfl, by decide +kernel, rfl, by decide +kernel, by decide +kernel⟩
theorem okf__law_long {f : Addr} {fd : FuncData} (F : L2.Fun K "_law_long" "_law_long" st__law_long f fd) (hm : mg "_law_long" = some (.ref f)) (m_sum : mg "sum" = none) : FnOk P w K mg base (L2.CX P w) 1 f fd ["words", "first", "behind"] (spP K mg 3 F__law_long) := by
  refine ok_def (N := ["words", "first", "behind"]) (ps := ["words", "first", "behind"]) (d := d__law_long) F sc__law_long (fun cdv A outer s H E PP hr => ?_)
  have U := u_of hr
  have nd := sc__law_long.nd
  exact (ss_one
    (ss_ret (se_bin L2.op_sub s_sub (se_bin L2.op_sub s_sub (se_bin op_addV s_add (v_blt (call_sumV rfl) (OpSLR.opl s_sum) m_sum bt_sum (v_cons (v_sl (v_var 0) (so_some (v_var 1)) (so_some (v_var 2))) sa_nil)) (v_var 2)) (v_var 1)) se_int)))
theorem ok__law_long {f : Addr} {fd : FuncData} (F : L2.Fun K "_law_long" "_law_long" st__law_long f fd) (hm : mg "_law_long" = some (.ref f)) (m_sum : mg "sum" = none) : Good P w K mg base "_law_long" 1 ["words", "first", "behind"] F__law_long := ⟨f, fd, okf__law_long F hm m_sum, hm, F.kp, F.binds (ps := ["words", "first", "behind"]) fun _ _ _ _ _ _ us hl => match us, hl with | [_, _, _], _ => rfl⟩
abbrev st__law_settings : Stmt := topS 30
theorem sc__law_settings : FnScope ["words", "w", "found", "rows", "turn", "longer", "row", "at"] ["words", "w"] (defScope st__law_settings) := ⟨rfl, rfl, rfl, by decide +kernel, rfl, by decide +kernel, by decide +kernel⟩
theorem okf__law_settings {f : Addr} {fd : FuncData} (F : L2.Fun K "_law_settings" "_law_settings" st__law_settings f fd) (hm : mg "_law_settings" = some (.ref f)) (g__law_long : Good P w K mg base "_law_long" 1 ["words", "first", "behind"] F__law_long) (m_range : mg "range" = none) (m_len : mg "len" = none) (m_sorted : mg "sorted" = none) : FnOk P w K mg base (L2.CX P w) 2 f fd ["words", "w"] (spP K mg 2 F__law_settings) := by
  refine ok_def (N := ["words", "w", "found", "rows", "turn", "longer", "row", "at"]) (ps := ["words", "w"]) (d := d__law_settings) F sc__law_settings (fun cdv A outer s H E PP hr => ?_)
  have U := u_of hr
  have nd := sc__law_settings.nd
  exact (ss_cons (v_set 2 nd (v_lst sa_nil))
    (ss_cons (v_set 3 nd (v_lst (v_cons (v_tup (v_cons se_int sa_nil)) sa_nil)))
    (ss_cons (v_for own_top (v_rng1 m_range (v_cons (v_bltS call_lenV s_len m_len bt_len (L2.pv 0)) sa_nil)) (g_nm 4 nd) (ss_cons (v_set 5 nd (v_lst sa_nil))
    (ss_cons (v_for own_top (v_ival (v_var 3)) (g_nm 6 nd) (ss_cons (ss_if (vt_cmp (op_leV (u64 U)) (s_ord fun _ _ => rfl) (v_call g__law_long hr pass_top (v_cons (v_var 0) (v_cons (v_ixS U (L2.pv 6) (se_un L2.un_neg s_neg se_int)) (v_cons (v_bltS call_lenV s_len m_len bt_len (L2.pv 0)) sa_nil)))) (v_var 1)) (ss_one
    (v_expr (v_app (L2.pv 2) (v_var 6)))) ss_nil)
    (ss_one
    (v_expr (v_ext (L2.pv 5) (v_lcIf [("at", 7)] nd (v_rng2 m_range (v_cons (se_bin op_addV s_add (v_ixS U (L2.pv 6) (se_un L2.un_neg s_neg se_int)) se_int) (v_cons (v_bltS call_lenV s_len m_len bt_len (L2.pv 0)) sa_nil))) (fun s H C cl fp PP => (g_nm 7 nd)) (fun s H C cl fp PP => (vt_cmp (op_leV (u64 U)) (s_ord fun _ _ => rfl) (v_call g__law_long hr passL (v_cons (v_var 0) (v_cons (v_ixS U (L2.pv 6) (se_un L2.un_neg s_neg se_int)) (v_cons (v_var 7) sa_nil)))) (v_var 1))) (fun s H C cl fp PP => (se_bin op_addV s_add (v_var 6) (v_tup (v_cons (v_var 7) sa_nil))))))))))
    (ss_one
    (v_set 3 nd (v_var 5))))))
    (ss_one
    (ss_ret (v_bltS (call_sortV (u64 U)) s_sorted m_sorted bt_sorted (L2.pv 2)))))))
theorem ok__law_settings {f : Addr} {fd : FuncData} (F : L2.Fun K "_law_settings" "_law_settings" st__law_settings f fd) (hm : mg "_law_settings" = some (.ref f)) (g__law_long : Good P w K mg base "_law_long" 1 ["words", "first", "behind"] F__law_long) (m_range : mg "range" = none) (m_len : mg "len" = none) (m_sorted : mg "sorted" = none) : Good P w K mg base "_law_settings" 2 ["words", "w"] F__law_settings := ⟨f, fd, okf__law_settings F hm g__law_long m_range m_len m_sorted, hm, F.kp, F.binds (ps := ["words", "w"]) fun _ _ _ _ _ _ us hl => match us, hl with | [_, _], _ => rfl⟩
abbrev st__law_gaps : Stmt := topS 31
theorem sc__law_gaps : FnScope ["words", "w", "begins", "found", "first", "behind", "many", "blanks", "gap"] ["words", "w", "begins"] (defScope st__law_gaps) := ⟨rfl, rfl, rfl, by decide +kernel, rfl, by decide +kernel, by decide +kernel⟩
theorem okf__law_gaps {f : Addr} {fd : FuncData} (F : L2.Fun K "_law_gaps" "_law_gaps" st__law_gaps f fd) (hm : mg "_law_gaps" = some (.ref f)) (m_zip : mg "zip" = none) (m_len : mg "len" = none) (m_sum : mg "sum" = none) (m_tuple : mg "tuple" = none) (m_range : mg "range" = none) (m_int : mg "int" = none) : FnOk P w K mg base (L2.CX P w) 1 f fd ["words", "w", "begins"] (spP K mg 3 F__law_gaps) := by
  refine ok_def (N := ["words", "w", "begins", "found", "first", "behind", "many", "blanks", "gap"]) (ps := ["words", "w", "begins"]) (d := d__law_gaps) F sc__law_gaps (fun cdv A outer s H E PP hr => ?_)
  have U := u_of hr
  have nd := sc__law_gaps.nd
  exact (ss_cons (v_set 3 nd (v_lst sa_nil))
    (ss_cons (v_for own_top (v_zip m_zip (v_cons (v_var 2) (v_cons (se_bin op_addV s_add (v_sl (v_var 2) (so_some se_int) so_none) (v_tup (v_cons (v_bltS call_lenV s_len m_len bt_len (L2.pv 0)) sa_nil))) sa_nil))) (g_tup (g_cons (g_nm 4 nd) (g_cons (g_nm 5 nd) sgs_nil))) (ss_cons (v_asg (v_tup (v_cons (se_bin L2.op_sub s_sub (se_bin L2.op_sub s_sub (v_var 5) (v_var 4)) se_int) (v_cons (se_bin L2.op_sub s_sub (v_var 1) (v_blt (call_sumV rfl) (OpSLR.opl s_sum) m_sum bt_sum (v_cons (v_sl (v_var 0) (so_some (v_var 4)) (so_some (v_var 5))) sa_nil))) sa_nil))) (g_tup (g_cons (g_nm 6 nd) (g_cons (g_nm 7 nd) sgs_nil))))
    (ss_one
    (ss_if (vt_cmp (L2.op_eqD (u64 U)) s_eq (v_var 5) (v_bltS call_lenV s_len m_len bt_len (L2.pv 0))) (ss_one
    (v_expr (v_app (L2.pv 3) (se_bin op_mulV s_mul (v_tup (v_cons se_int sa_nil)) (v_var 6))))) (ss_one
    (v_expr (v_app (L2.pv 3) (v_bty L2.call_tuple_of (OpSLR.opl s_tuple) m_tuple bt_tuple (v_cons (v_lc [("gap", 8)] nd (v_rng1 m_range (v_cons (v_var 6) sa_nil)) (fun s H C cl fp PP => (g_nm 8 nd)) (fun s H C cl fp PP => (se_bin op_addV s_add (se_bin L2.op_fdiv s_div (v_var 7) (v_var 6)) (v_bty L2.call_int1 (OpSLR.opl s_int) m_int bt_int (v_cons (v_cmp (op_ltV (u64 U)) (s_ord fun _ _ => rfl) (v_var 8) (se_bin L2.op_mod s_mod (v_bty L2.call_int1 (OpSLR.opl s_int) m_int bt_int (v_cons (v_var 7) sa_nil)) (v_var 6))) sa_nil))))) sa_nil)))))))))
    (ss_one
    (ss_ret (v_btyS L2.call_tuple_of s_tuple m_tuple bt_tuple (L2.pv 3))))))
theorem ok__law_gaps {f : Addr} {fd : FuncData} (F : L2.Fun K "_law_gaps" "_law_gaps" st__law_gaps f fd) (hm : mg "_law_gaps" = some (.ref f)) (m_zip : mg "zip" = none) (m_len : mg "len" = none) (m_sum : mg "sum" = none) (m_tuple : mg "tuple" = none) (m_range : mg "range" = none) (m_int : mg "int" = none) : Good P w K mg base "_law_gaps" 1 ["words", "w", "begins"] F__law_gaps := ⟨f, fd, okf__law_gaps F hm m_zip m_len m_sum m_tuple m_range m_int, hm, F.kp, F.binds (ps := ["words", "w", "begins"]) fun _ _ _ _ _ _ us hl => match us, hl with | [_, _, _], _ => rfl⟩
abbrev st__law_widest : Stmt := topS 32
theorem sc__law_widest : FnScope ["words", "w", "begins", "row"] ["words", "w", "begins"] (defScope st__law_widest) := ⟨rfl, rfl, rfl, by decide +kernel, rfl, by decide +kernel, by decide +kernel⟩
theorem okf__law_widest {f : Addr} {fd : FuncData} (F : L2.Fun K "_law_widest" "_law_widest" st__law_widest f fd) (hm : mg "_law_widest" = some (.ref f)) (g__law_gaps : Good P w K mg base "_law_gaps" 1 ["words", "w", "begins"] F__law_gaps) (m_max : mg "max" = none) (m_list : mg "list" = none) : FnOk P w K mg base (L2.CX P w) 2 f fd ["words", "w", "begins"] (spP K mg 3 F__law_widest) := by
  refine ok_def (N := ["words", "w", "begins", "row"]) (ps := ["words", "w", "begins"]) (d := d__law_widest) F sc__law_widest (fun cdv A outer s H E PP hr => ?_)
  have U := u_of hr
  have nd := sc__law_widest.nd
  exact (ss_one
    (ss_ret (v_blt (call_maxV rfl (u64 U)) (OpSLR.opl s_max) m_max bt_max (v_cons (se_bin op_addV s_add (v_lst (v_cons se_int sa_nil)) (v_lc [("row", 3)] nd (v_ival (v_call g__law_gaps hr pass_top (v_cons (v_var 0) (v_cons (v_var 1) (v_cons (v_var 2) sa_nil))))) (fun s H C cl fp PP => (g_nm 3 nd)) (fun s H C cl fp PP => (v_blt (call_maxV rfl (u64 U)) (OpSLR.opl s_max) m_max bt_max (v_cons (se_bin op_addV s_add (v_lst (v_cons se_int sa_nil)) (v_btyS (call_listV rfl) s_list m_list bt_list (L2.pv 3))) sa_nil))))) sa_nil))))
theorem ok__law_widest {f : Addr} {fd : FuncData} (F : L2.Fun K "_law_widest" "_law_widest" st__law_widest f fd) (hm : mg "_law_widest" = some (.ref f)) (g__law_gaps : Good P w K mg base "_law_gaps" 1 ["words", "w", "begins"] F__law_gaps) (m_max : mg "max" = none) (m_list : mg "list" = none) : Good P w K mg base "_law_widest" 2 ["words", "w", "begins"] F__law_widest := ⟨f, fd, okf__law_widest F hm g__law_gaps m_max m_list, hm, F.kp, F.binds (ps := ["words", "w", "begins"]) fun _ _ _ _ _ _ us hl => match us, hl with | [_, _, _], _ => rfl⟩
abbrev st_law : Stmt := topS 33
theorem sc_law : FnScope ["script", "hand", "turn", "words", "w", "every", "told", "row", "gaps_now", "one"] ["script"] (defScope st_law) := ⟨rfl, rfl, rfl, by decide +kernel, rfl, by decide +kernel, by decide +kernel⟩
theorem okf_law {f : Addr} {fd : FuncData} (F : L2.Fun K "law" "law" st_law f fd) (hm : mg "law" = some (.ref f)) (g__law_hand : Good P w K mg base "_law_hand" 1 ["script"] F__law_hand) (g_gaps_of : Good P w K mg base "gaps_of" 6 ["words", "w", "begins"] F_gaps_of) (g_widest_gap : Good P w K mg base "widest_gap" 6 ["words", "w", "begins"] F_widest_gap) (g_calmest : Good P w K mg base "calmest" 5 ["words", "w"] F_calmest) (g__law_words : GoodH P w K mg base "_law_words" 3 ["hand", "most"] F__law_words) (g__law_draw : GoodH P w K mg base "_law_draw" 1 ["hand", "many"] F__law_draw) (g__law_settings : Good P w K mg base "_law_settings" 2 ["words", "w"] F__law_settings) (g__law_some : GoodH P w K mg base "_law_some" 2 ["hand", "things"] F__law_some) (g__law_gaps : Good P w K mg base "_law_gaps" 1 ["words", "w", "begins"] F__law_gaps) (g__law_widest : Good P w K mg base "_law_widest" 2 ["words", "w", "begins"] F__law_widest) (m_tuple : mg "tuple" = none) (m_range : mg "range" = none) (m_min : mg "min" = none) : FnOk P w K mg base (L2.CX P w) 7 f fd ["script"] (spP K mg 1 F_law_k78) := by
  refine ok_def (N := ["script", "hand", "turn", "words", "w", "every", "told", "row", "gaps_now", "one"]) (ps := ["script"]) (d := d_law_k78) F sc_law (fun cdv A outer s H E PP hr => ?_)
  have U := u_of hr
  have nd := sc_law.nd
  exact (ss_cons (v_set 1 nd (v_call g__law_hand hr pass_top (v_cons (v_var 0) sa_nil)))
    (ss_cons (ss_if (vt_cmp (L2.op_neD (u64 U)) s_ne (v_call g_gaps_of hr pass_top (v_cons (v_tup (v_cons se_int (v_cons se_int (v_cons se_int (v_cons se_int sa_nil))))) (v_cons se_int (v_cons (v_tup (v_cons se_int (v_cons se_int sa_nil))) sa_nil)))) (v_tup (v_cons (v_tup (v_cons se_int (v_cons se_int sa_nil))) (v_cons (v_tup sa_nil) sa_nil)))) (ss_one
    (ss_ret se_bl)) ss_nil)
    (ss_cons (ss_if (vt_cmp (L2.op_neD (u64 U)) s_ne (v_call g_widest_gap hr pass_top (v_cons (v_tup (v_cons se_int (v_cons se_int (v_cons se_int (v_cons se_int sa_nil))))) (v_cons se_int (v_cons (v_tup (v_cons se_int (v_cons se_int sa_nil))) sa_nil)))) se_int) (ss_one
    (ss_ret se_bl)) ss_nil)
    (ss_cons (ss_if (vt_cmp (L2.op_neD (u64 U)) s_ne (v_call g_gaps_of hr pass_top (v_cons (v_tup (v_cons se_int (v_cons se_int sa_nil))) (v_cons se_int (v_cons (v_tup (v_cons se_int sa_nil)) sa_nil)))) (v_tup (v_cons (v_tup (v_cons se_int sa_nil)) sa_nil))) (ss_one
    (ss_ret se_bl)) ss_nil)
    (ss_cons (ss_if (vt_cmp (L2.op_neD (u64 U)) s_ne (v_bty L2.call_tuple_of (OpSLR.opl s_tuple) m_tuple bt_tuple (v_cons (v_call g_calmest hr pass_top (v_cons (v_tup (v_cons se_int (v_cons se_int sa_nil))) (v_cons se_int sa_nil))) sa_nil)) (v_tup (v_cons se_int (v_cons (v_tup (v_cons se_int (v_cons se_int sa_nil))) sa_nil)))) (ss_one
    (ss_ret se_bl)) ss_nil)
    (ss_cons (ss_if (vt_cmp op_isNotV s_isNot (v_call g_calmest hr pass_top (v_cons (v_tup (v_cons se_int sa_nil)) (v_cons se_int sa_nil))) se_non) (ss_one
    (ss_ret se_bl)) ss_nil)
    (ss_cons (ss_if (vt_cmp (L2.op_neD (u64 U)) s_ne (v_call g_widest_gap hr pass_top (v_cons (v_tup (v_cons se_int sa_nil)) (v_cons se_int (v_cons (v_tup (v_cons se_int sa_nil)) sa_nil)))) se_int) (ss_one
    (ss_ret se_bl)) ss_nil)
    (ss_cons (v_for own_top (v_rng1 m_range (v_cons se_int sa_nil)) (g_nm 2 nd) (ss_cons (v_asg (v_tup (v_cons (v_callH g__law_words hr pass_top (L2.pv 1) (v_cons se_int sa_nil)) (v_cons (se_bin op_addV s_add se_int (v_callH g__law_draw hr pass_top (L2.pv 1) (v_cons se_int sa_nil))) sa_nil))) (g_tup (g_cons (g_nm 3 nd) (g_cons (g_nm 4 nd) sgs_nil))))
    (ss_cons (v_par nd (v_cons (v_call g__law_settings hr pass_top (v_cons (v_var 3) (v_cons (v_var 4) sa_nil))) (v_cons (v_call g_calmest hr pass_top (v_cons (v_var 3) (v_cons (v_var 4) sa_nil))) sa_nil)))
    (ss_cons (ss_if (vt_cmp (L2.op_neD (u64 U)) s_ne (v_cmp op_isV s_is (v_var 6) se_non) (v_cmp (L2.op_eqD (u64 U)) s_eq (v_var 5) (v_lst sa_nil))) (ss_one
    (ss_ret se_bl)) ss_nil)
    (ss_one
    (ss_if (vt_cmp (L2.op_neD (u64 U)) s_ne (v_var 5) (v_lst sa_nil)) (ss_cons (v_set 7 nd (v_callH g__law_some hr pass_top (L2.pv 1) (v_cons (v_var 5) sa_nil)))
    (ss_cons (ss_if (vt_cmp (L2.op_neD (u64 U)) s_ne (v_bty L2.call_tuple_of (OpSLR.opl s_tuple) m_tuple bt_tuple (v_cons (v_lc [("gaps_now", 8)] nd (v_ival (v_call g_gaps_of hr pass_top (v_cons (v_var 3) (v_cons (v_var 4) (v_cons (v_var 7) sa_nil))))) (fun s H C cl fp PP => (g_nm 8 nd)) (fun s H C cl fp PP => (v_btyS L2.call_tuple_of s_tuple m_tuple bt_tuple (L2.pv 8)))) sa_nil)) (v_call g__law_gaps hr pass_top (v_cons (v_var 3) (v_cons (v_var 4) (v_cons (v_var 7) sa_nil))))) (ss_one
    (ss_ret se_bl)) ss_nil)
    (ss_cons (ss_if (vt_cmp (L2.op_neD (u64 U)) s_ne (v_call g_widest_gap hr pass_top (v_cons (v_var 3) (v_cons (v_var 4) (v_cons (v_var 7) sa_nil)))) (v_call g__law_widest hr pass_top (v_cons (v_var 3) (v_cons (v_var 4) (v_cons (v_var 7) sa_nil))))) (ss_one
    (ss_ret se_bl)) ss_nil)
    (ss_one
    (ss_if (vt_cmp (L2.op_neD (u64 U)) s_ne (v_btyS L2.call_tuple_of s_tuple m_tuple bt_tuple (L2.pv 6)) (v_blt (call_minV rfl (u64 U)) (OpSLR.opl s_min) m_min bt_min (v_cons (v_lc [("one", 9)] nd (v_ival (v_var 5)) (fun s H C cl fp PP => (g_nm 9 nd)) (fun s H C cl fp PP => (v_tup (v_cons (v_call g__law_widest hr passL (v_cons (v_var 3) (v_cons (v_var 4) (v_cons (v_var 9) sa_nil)))) (v_cons (v_var 9) sa_nil))))) sa_nil))) (ss_one
    (ss_ret se_bl)) ss_nil))))) ss_nil))))))
    (ss_one
    (ss_ret se_bl))))))))))
theorem ok_law {f : Addr} {fd : FuncData} (F : L2.Fun K "law" "law" st_law f fd) (hm : mg "law" = some (.ref f)) (g__law_hand : Good P w K mg base "_law_hand" 1 ["script"] F__law_hand) (g_gaps_of : Good P w K mg base "gaps_of" 6 ["words", "w", "begins"] F_gaps_of) (g_widest_gap : Good P w K mg base "widest_gap" 6 ["words", "w", "begins"] F_widest_gap) (g_calmest : Good P w K mg base "calmest" 5 ["words", "w"] F_calmest) (g__law_words : GoodH P w K mg base "_law_words" 3 ["hand", "most"] F__law_words) (g__law_draw : GoodH P w K mg base "_law_draw" 1 ["hand", "many"] F__law_draw) (g__law_settings : Good P w K mg base "_law_settings" 2 ["words", "w"] F__law_settings) (g__law_some : GoodH P w K mg base "_law_some" 2 ["hand", "things"] F__law_some) (g__law_gaps : Good P w K mg base "_law_gaps" 1 ["words", "w", "begins"] F__law_gaps) (g__law_widest : Good P w K mg base "_law_widest" 2 ["words", "w", "begins"] F__law_widest) (m_tuple : mg "tuple" = none) (m_range : mg "range" = none) (m_min : mg "min" = none) : Good P w K mg base "law" 7 ["script"] F_law_k78 := ⟨f, fd, okf_law F hm g__law_hand g_gaps_of g_widest_gap g_calmest g__law_words g__law_draw g__law_settings g__law_some g__law_gaps g__law_widest m_tuple m_range m_min, hm, F.kp, F.binds (ps := ["script"]) fun _ _ _ _ _ _ us hl => match us, hl with | [_], _ => rfl⟩
end
end K78
namespace K78
open PySem PySem.Spec PyProof.Rows L2 PV
open PySem.W (minD maxD dataLt)
open Lf
/-- the law's promise -/
def spLaw (K : PySem.W.Frag) : Sp := fun vs H Q _ => ∃ (a : Addr) (is : List Int), vs = [.ref a] ∧ SqL K H a (is.map V.int) ∧ is.length ≤ 63 ∧ Only H ∧ ∀ H', Q (.bl true) H'
theorem law_imp {K : PySem.W.Frag} {mg : Str → Option Value} {vs : List V} {H : Hp} {Q : VK} {E : XK} (h : spLaw K vs H Q E) : spP K mg 1 F_law_k78 vs H Q E := by
  obtain ⟨a, is, rfl, hs, hl, ho, q⟩ := h
  refine ⟨rfl, fun _ => False, [.scr is], fun _ h => h.elim, RpL.one (rp_scr.mpr ⟨a, rfl, ?_⟩), ?_⟩
  · rcases hs with (hs | hs) | hs
    · rcases ho a with z | ⟨o, xs, z⟩
      · rw [z] at hs; cases hs
      · rw [z] at hs; cases hs
    · exact .inl ⟨fun h => h, hs⟩
    · exact .inr hs
  · obtain ⟨oo, e⟩ : ∃ oo, F_law_k78 [.scr is] = .ok (.bl true, oo) := law78 is hl
    rw [e]
    intro z H' _ nr
    cases oo with
    | false =>
      have nr : Rp K H' (fun _ => False) (.bl true) z := nr
      rw [rp_bl] at nr
      subst nr
      exact q H'
    | true =>
      obtain ⟨p, _, _, h⟩ := nr
      exact h.elim
theorem all_mk {P : Program} {w : World} {K : PySem.W.Frag} {h : Heap} {mg : Str → Option Value} {fa : Addr} (X : K.In h) (G : h.Ns mainGlobals mg) (hfa : mg "law" = some (.ref fa))
    {fA0 : Addr} {od0 an0 : Option Addr} {sl0 : Array (Option Value)} {oc0 kV0 dc0 pm0 cd0 ct0 : Value} {fA1 : Addr} {od1 an1 : Option Addr} {sl1 : Array (Option Value)} {oc1 kV1 dc1 pm1 cd1 ct1 : Value} {fA2 : Addr} {od2 an2 : Option Addr} {sl2 : Array (Option Value)} {oc2 kV2 dc2 pm2 cd2 ct2 : Value} {fA3 : Addr} {od3 an3 : Option Addr} {sl3 : Array (Option Value)} {oc3 kV3 dc3 pm3 cd3 ct3 : Value} {fA4 : Addr} {od4 an4 : Option Addr} {sl4 : Array (Option Value)} {oc4 kV4 dc4 pm4 cd4 ct4 : Value} {fA5 : Addr} {od5 an5 : Option Addr} {sl5 : Array (Option Value)} {oc5 kV5 dc5 pm5 cd5 ct5 : Value} {fA6 : Addr} {od6 an6 : Option Addr} {sl6 : Array (Option Value)} {oc6 kV6 dc6 pm6 cd6 ct6 : Value} {fA7 : Addr} {od7 an7 : Option Addr} {sl7 : Array (Option Value)} {oc7 kV7 dc7 pm7 cd7 ct7 : Value} {fA8 : Addr} {od8 an8 : Option Addr} {sl8 : Array (Option Value)} {oc8 kV8 dc8 pm8 cd8 ct8 : Value} {fA9 : Addr} {od9 an9 : Option Addr} {sl9 : Array (Option Value)} {oc9 kV9 dc9 pm9 cd9 ct9 : Value} {fA10 : Addr} {od10 an10 : Option Addr} {sl10 : Array (Option Value)} {oc10 kV10 dc10 pm10 cd10 ct10 : Value} {fA11 : Addr} {od11 an11 : Option Addr} {sl11 : Array (Option Value)} {oc11 kV11 dc11 pm11 cd11 ct11 : Value} {fA12 : Addr} {od12 an12 : Option Addr} {sl12 : Array (Option Value)} {oc12 kV12 dc12 pm12 cd12 ct12 : Value} {fA13 : Addr} {od13 an13 : Option Addr} {sl13 : Array (Option Value)} {oc13 kV13 dc13 pm13 cd13 ct13 : Value} {fA14 : Addr} {od14 an14 : Option Addr} {sl14 : Array (Option Value)} {oc14 kV14 dc14 pm14 cd14 ct14 : Value} {fA15 : Addr} {od15 an15 : Option Addr} {sl15 : Array (Option Value)} {oc15 kV15 dc15 pm15 cd15 ct15 : Value} {fA16 : Addr} {od16 an16 : Option Addr} {sl16 : Array (Option Value)} {oc16 kV16 dc16 pm16 cd16 ct16 : Value} {fA17 : Addr} {od17 an17 : Option Addr} {sl17 : Array (Option Value)} {oc17 kV17 dc17 pm17 cd17 ct17 : Value} {fA18 : Addr} {od18 an18 : Option Addr} {sl18 : Array (Option Value)} {oc18 kV18 dc18 pm18 cd18 ct18 : Value} {fA19 : Addr} {od19 an19 : Option Addr} {sl19 : Array (Option Value)} {oc19 kV19 dc19 pm19 cd19 ct19 : Value} {fA20 : Addr} {od20 an20 : Option Addr} {sl20 : Array (Option Value)} {oc20 kV20 dc20 pm20 cd20 ct20 : Value} {fA21 : Addr} {od21 an21 : Option Addr} {sl21 : Array (Option Value)} {oc21 kV21 dc21 pm21 cd21 ct21 : Value} {fA22 : Addr} {od22 an22 : Option Addr} {sl22 : Array (Option Value)} {oc22 kV22 dc22 pm22 cd22 ct22 : Value} {t_MOST_WORDS : Tok} {t_MOST_LENGTH : Tok} {t_MOST_WIDTH : Tok}
    (a0 : PySem.W.nsIn K mainGlobals "is_integer" = some (some (.ref fA0)))
    (l0 : K.lookup fA0 = some ⟨oc0, od0, .func (PySem.W.fnOf "is_integer" "is_integer" (defArgs st_is_integer) (defBody st_is_integer) (defScope st_is_integer) .none kV0 dc0 pm0 an0 cd0 ct0), sl0⟩)
    (c0 : PySem.W.codeIn K cd0 "is_integer" = true)
    (k0 : PySem.W.keepIn K (.ref fA0) = true)
    (a1 : PySem.W.nsIn K mainGlobals "is_within" = some (some (.ref fA1)))
    (l1 : K.lookup fA1 = some ⟨oc1, od1, .func (PySem.W.fnOf "is_within" "is_within" (defArgs st_is_within) (defBody st_is_within) (defScope st_is_within) .none kV1 dc1 pm1 an1 cd1 ct1), sl1⟩)
    (c1 : PySem.W.codeIn K cd1 "is_within" = true)
    (k1 : PySem.W.keepIn K (.ref fA1) = true)
    (a2 : PySem.W.nsIn K mainGlobals "is_sized" = some (some (.ref fA2)))
    (l2 : K.lookup fA2 = some ⟨oc2, od2, .func (PySem.W.fnOf "is_sized" "is_sized" (defArgs st_is_sized) (defBody st_is_sized) (defScope st_is_sized) .none kV2 dc2 pm2 an2 cd2 ct2), sl2⟩)
    (c2 : PySem.W.codeIn K cd2 "is_sized" = true)
    (k2 : PySem.W.keepIn K (.ref fA2) = true)
    (a3 : PySem.W.nsIn K mainGlobals "check_words" = some (some (.ref fA3)))
    (l3 : K.lookup fA3 = some ⟨oc3, od3, .func (PySem.W.fnOf "check_words" "check_words" (defArgs st_check_words) (defBody st_check_words) (defScope st_check_words) .none kV3 dc3 pm3 an3 cd3 ct3), sl3⟩)
    (c3 : PySem.W.codeIn K cd3 "check_words" = true)
    (k3 : PySem.W.keepIn K (.ref fA3) = true)
    (a4 : PySem.W.nsIn K mainGlobals "check_page" = some (some (.ref fA4)))
    (l4 : K.lookup fA4 = some ⟨oc4, od4, .func (PySem.W.fnOf "check_page" "check_page" (defArgs st_check_page) (defBody st_check_page) (defScope st_check_page) .none kV4 dc4 pm4 an4 cd4 ct4), sl4⟩)
    (c4 : PySem.W.codeIn K cd4 "check_page" = true)
    (k4 : PySem.W.keepIn K (.ref fA4) = true)
    (a5 : PySem.W.nsIn K mainGlobals "room_of" = some (some (.ref fA5)))
    (l5 : K.lookup fA5 = some ⟨oc5, od5, .func (PySem.W.fnOf "room_of" "room_of" (defArgs st_room_of) (defBody st_room_of) (defScope st_room_of) .none kV5 dc5 pm5 an5 cd5 ct5), sl5⟩)
    (c5 : PySem.W.codeIn K cd5 "room_of" = true)
    (k5 : PySem.W.keepIn K (.ref fA5) = true)
    (a6 : PySem.W.nsIn K mainGlobals "lines_of" = some (some (.ref fA6)))
    (l6 : K.lookup fA6 = some ⟨oc6, od6, .func (PySem.W.fnOf "lines_of" "lines_of" (defArgs st_lines_of) (defBody st_lines_of) (defScope st_lines_of) .none kV6 dc6 pm6 an6 cd6 ct6), sl6⟩)
    (c6 : PySem.W.codeIn K cd6 "lines_of" = true)
    (k6 : PySem.W.keepIn K (.ref fA6) = true)
    (a7 : PySem.W.nsIn K mainGlobals "is_setting_of" = some (some (.ref fA7)))
    (l7 : K.lookup fA7 = some ⟨oc7, od7, .func (PySem.W.fnOf "is_setting_of" "is_setting_of" (defArgs st_is_setting_of) (defBody st_is_setting_of) (defScope st_is_setting_of) .none kV7 dc7 pm7 an7 cd7 ct7), sl7⟩)
    (c7 : PySem.W.codeIn K cd7 "is_setting_of" = true)
    (k7 : PySem.W.keepIn K (.ref fA7) = true)
    (a8 : PySem.W.nsIn K mainGlobals "check_setting" = some (some (.ref fA8)))
    (l8 : K.lookup fA8 = some ⟨oc8, od8, .func (PySem.W.fnOf "check_setting" "check_setting" (defArgs st_check_setting) (defBody st_check_setting) (defScope st_check_setting) .none kV8 dc8 pm8 an8 cd8 ct8), sl8⟩)
    (c8 : PySem.W.codeIn K cd8 "check_setting" = true)
    (k8 : PySem.W.keepIn K (.ref fA8) = true)
    (a9 : PySem.W.nsIn K mainGlobals "line_gaps" = some (some (.ref fA9)))
    (l9 : K.lookup fA9 = some ⟨oc9, od9, .func (PySem.W.fnOf "line_gaps" "line_gaps" (defArgs st_line_gaps) (defBody st_line_gaps) (defScope st_line_gaps) .none kV9 dc9 pm9 an9 cd9 ct9), sl9⟩)
    (c9 : PySem.W.codeIn K cd9 "line_gaps" = true)
    (k9 : PySem.W.keepIn K (.ref fA9) = true)
    (a10 : PySem.W.nsIn K mainGlobals "all_gaps" = some (some (.ref fA10)))
    (l10 : K.lookup fA10 = some ⟨oc10, od10, .func (PySem.W.fnOf "all_gaps" "all_gaps" (defArgs st_all_gaps) (defBody st_all_gaps) (defScope st_all_gaps) .none kV10 dc10 pm10 an10 cd10 ct10), sl10⟩)
    (c10 : PySem.W.codeIn K cd10 "all_gaps" = true)
    (k10 : PySem.W.keepIn K (.ref fA10) = true)
    (a11 : PySem.W.nsIn K mainGlobals "gaps_of" = some (some (.ref fA11)))
    (l11 : K.lookup fA11 = some ⟨oc11, od11, .func (PySem.W.fnOf "gaps_of" "gaps_of" (defArgs st_gaps_of) (defBody st_gaps_of) (defScope st_gaps_of) .none kV11 dc11 pm11 an11 cd11 ct11), sl11⟩)
    (c11 : PySem.W.codeIn K cd11 "gaps_of" = true)
    (k11 : PySem.W.keepIn K (.ref fA11) = true)
    (a12 : PySem.W.nsIn K mainGlobals "widest_gap" = some (some (.ref fA12)))
    (l12 : K.lookup fA12 = some ⟨oc12, od12, .func (PySem.W.fnOf "widest_gap" "widest_gap" (defArgs st_widest_gap) (defBody st_widest_gap) (defScope st_widest_gap) .none kV12 dc12 pm12 an12 cd12 ct12), sl12⟩)
    (c12 : PySem.W.codeIn K cd12 "widest_gap" = true)
    (k12 : PySem.W.keepIn K (.ref fA12) = true)
    (a13 : PySem.W.nsIn K mainGlobals "calmest" = some (some (.ref fA13)))
    (l13 : K.lookup fA13 = some ⟨oc13, od13, .func (PySem.W.fnOf "calmest" "calmest" (defArgs st_calmest) (defBody st_calmest) (defScope st_calmest) .none kV13 dc13 pm13 an13 cd13 ct13), sl13⟩)
    (c13 : PySem.W.codeIn K cd13 "calmest" = true)
    (k13 : PySem.W.keepIn K (.ref fA13) = true)
    (a14 : PySem.W.nsIn K mainGlobals "_law_hand" = some (some (.ref fA14)))
    (l14 : K.lookup fA14 = some ⟨oc14, od14, .func (PySem.W.fnOf "_law_hand" "_law_hand" (defArgs st__law_hand) (defBody st__law_hand) (defScope st__law_hand) .none kV14 dc14 pm14 an14 cd14 ct14), sl14⟩)
    (c14 : PySem.W.codeIn K cd14 "_law_hand" = true)
    (k14 : PySem.W.keepIn K (.ref fA14) = true)
    (a15 : PySem.W.nsIn K mainGlobals "_law_draw" = some (some (.ref fA15)))
    (l15 : K.lookup fA15 = some ⟨oc15, od15, .func (PySem.W.fnOf "_law_draw" "_law_draw" (defArgs st__law_draw) (defBody st__law_draw) (defScope st__law_draw) .none kV15 dc15 pm15 an15 cd15 ct15), sl15⟩)
    (c15 : PySem.W.codeIn K cd15 "_law_draw" = true)
    (k15 : PySem.W.keepIn K (.ref fA15) = true)
    (a16 : PySem.W.nsIn K mainGlobals "_law_some" = some (some (.ref fA16)))
    (l16 : K.lookup fA16 = some ⟨oc16, od16, .func (PySem.W.fnOf "_law_some" "_law_some" (defArgs st__law_some) (defBody st__law_some) (defScope st__law_some) .none kV16 dc16 pm16 an16 cd16 ct16), sl16⟩)
    (c16 : PySem.W.codeIn K cd16 "_law_some" = true)
    (k16 : PySem.W.keepIn K (.ref fA16) = true)
    (a17 : PySem.W.nsIn K mainGlobals "_law_words" = some (some (.ref fA17)))
    (l17 : K.lookup fA17 = some ⟨oc17, od17, .func (PySem.W.fnOf "_law_words" "_law_words" (defArgs st__law_words) (defBody st__law_words) (defScope st__law_words) .none kV17 dc17 pm17 an17 cd17 ct17), sl17⟩)
    (c17 : PySem.W.codeIn K cd17 "_law_words" = true)
    (k17 : PySem.W.keepIn K (.ref fA17) = true)
    (a18 : PySem.W.nsIn K mainGlobals "_law_long" = some (some (.ref fA18)))
    (l18 : K.lookup fA18 = some ⟨oc18, od18, .func (PySem.W.fnOf "_law_long" "_law_long" (defArgs st__law_long) (defBody st__law_long) (defScope st__law_long) .none kV18 dc18 pm18 an18 cd18 ct18), sl18⟩)
    (c18 : PySem.W.codeIn K cd18 "_law_long" = true)
    (k18 : PySem.W.keepIn K (.ref fA18) = true)
    (a19 : PySem.W.nsIn K mainGlobals "_law_settings" = some (some (.ref fA19)))
    (l19 : K.lookup fA19 = some ⟨oc19, od19, .func (PySem.W.fnOf "_law_settings" "_law_settings" (defArgs st__law_settings) (defBody st__law_settings) (defScope st__law_settings) .none kV19 dc19 pm19 an19 cd19 ct19), sl19⟩)
    (c19 : PySem.W.codeIn K cd19 "_law_settings" = true)
    (k19 : PySem.W.keepIn K (.ref fA19) = true)
    (a20 : PySem.W.nsIn K mainGlobals "_law_gaps" = some (some (.ref fA20)))
    (l20 : K.lookup fA20 = some ⟨oc20, od20, .func (PySem.W.fnOf "_law_gaps" "_law_gaps" (defArgs st__law_gaps) (defBody st__law_gaps) (defScope st__law_gaps) .none kV20 dc20 pm20 an20 cd20 ct20), sl20⟩)
    (c20 : PySem.W.codeIn K cd20 "_law_gaps" = true)
    (k20 : PySem.W.keepIn K (.ref fA20) = true)
    (a21 : PySem.W.nsIn K mainGlobals "_law_widest" = some (some (.ref fA21)))
    (l21 : K.lookup fA21 = some ⟨oc21, od21, .func (PySem.W.fnOf "_law_widest" "_law_widest" (defArgs st__law_widest) (defBody st__law_widest) (defScope st__law_widest) .none kV21 dc21 pm21 an21 cd21 ct21), sl21⟩)
    (c21 : PySem.W.codeIn K cd21 "_law_widest" = true)
    (k21 : PySem.W.keepIn K (.ref fA21) = true)
    (a22 : PySem.W.nsIn K mainGlobals "law" = some (some (.ref fA22)))
    (l22 : K.lookup fA22 = some ⟨oc22, od22, .func (PySem.W.fnOf "law" "law" (defArgs st_law) (defBody st_law) (defScope st_law) .none kV22 dc22 pm22 an22 cd22 ct22), sl22⟩)
    (c22 : PySem.W.codeIn K cd22 "law" = true)
    (k22 : PySem.W.keepIn K (.ref fA22) = true)
    (z_isinstance : PySem.W.nsIn K mainGlobals "isinstance" = some none)
    (z_int : PySem.W.nsIn K mainGlobals "int" = some none)
    (z_bool : PySem.W.nsIn K mainGlobals "bool" = some none)
    (z_tuple : PySem.W.nsIn K mainGlobals "tuple" = some none)
    (z_len : PySem.W.nsIn K mainGlobals "len" = some none)
    (z_all : PySem.W.nsIn K mainGlobals "all" = some none)
    (z_sum : PySem.W.nsIn K mainGlobals "sum" = some none)
    (z_list : PySem.W.nsIn K mainGlobals "list" = some none)
    (z_zip : PySem.W.nsIn K mainGlobals "zip" = some none)
    (z_range : PySem.W.nsIn K mainGlobals "range" = some none)
    (z_max : PySem.W.nsIn K mainGlobals "max" = some none)
    (z_min : PySem.W.nsIn K mainGlobals "min" = some none)
    (z_abs : PySem.W.nsIn K mainGlobals "abs" = some none)
    (z_sorted : PySem.W.nsIn K mainGlobals "sorted" = some none)
    (y_MOST_WORDS : PySem.W.nsIn K mainGlobals "MOST_WORDS" = some (some (.int 14 t_MOST_WORDS)))
    (y_MOST_LENGTH : PySem.W.nsIn K mainGlobals "MOST_LENGTH" = some (some (.int 12 t_MOST_LENGTH)))
    (y_MOST_WIDTH : PySem.W.nsIn K mainGlobals "MOST_WIDTH" = some (some (.int 30 t_MOST_WIDTH))) :
    ∃ fd : FuncData, (∀ (s : Shared) (v : Value), BindsTo s fd ⟨[v], []⟩ [("script", v)]) ∧ ∀ base : Heap, K.In base → base.Ns mainGlobals mg → FnOk P w K mg base (L2.CX P w) 7 fa fd ["script"] (spLaw K) := by
  have e := hfa.symm.trans (PySem.W.mg_of X G a22)
  cases e
  refine ⟨PySem.W.fnOf "law" "law" (defArgs st_law) (defBody st_law) (defScope st_law) .none kV22 dc22 pm22 an22 cd22 ct22, fun s v => .of_eq rfl, fun base _ _ => ?_⟩
  have g_is_integer := ok_is_integer (P := P) (w := w) (base := base) (fun_mk (st := st_is_integer) l0 c0 k0) (PySem.W.mg_of X G a0) (PySem.W.mg_none_of X G z_isinstance) (PySem.W.mg_none_of X G z_int) (PySem.W.mg_none_of X G z_bool)
  have g_is_within := ok_is_within (P := P) (w := w) (base := base) (fun_mk (st := st_is_within) l1 c1 k1) (PySem.W.mg_of X G a1) g_is_integer
  have g_is_sized := ok_is_sized (P := P) (w := w) (base := base) (fun_mk (st := st_is_sized) l2 c2 k2) (PySem.W.mg_of X G a2) (PySem.W.mg_none_of X G z_isinstance) (PySem.W.mg_none_of X G z_tuple) (PySem.W.mg_none_of X G z_len)
  have g_check_words := ok_check_words (P := P) (w := w) (base := base) (fun_mk (st := st_check_words) l3 c3 k3) (PySem.W.mg_of X G a3) g_is_sized g_is_within (PySem.W.mg_none_of X G z_all) ⟨_, PySem.W.mg_of X G y_MOST_WORDS⟩ ⟨_, PySem.W.mg_of X G y_MOST_LENGTH⟩
  have g_check_page := ok_check_page (P := P) (w := w) (base := base) (fun_mk (st := st_check_page) l4 c4 k4) (PySem.W.mg_of X G a4) g_check_words g_is_within ⟨_, PySem.W.mg_of X G y_MOST_WIDTH⟩
  have g_room_of := ok_room_of (P := P) (w := w) (base := base) (fun_mk (st := st_room_of) l5 c5 k5) (PySem.W.mg_of X G a5) (PySem.W.mg_none_of X G z_sum)
  have g_lines_of := ok_lines_of (P := P) (w := w) (base := base) (fun_mk (st := st_lines_of) l6 c6 k6) (PySem.W.mg_of X G a6) (PySem.W.mg_none_of X G z_len) (PySem.W.mg_none_of X G z_list) (PySem.W.mg_none_of X G z_zip)
  have g_is_setting_of := ok_is_setting_of (P := P) (w := w) (base := base) (fun_mk (st := st_is_setting_of) l7 c7 k7) (PySem.W.mg_of X G a7) g_is_sized g_is_within g_lines_of g_room_of (PySem.W.mg_none_of X G z_len) (PySem.W.mg_none_of X G z_all) (PySem.W.mg_none_of X G z_zip)
  have g_check_setting := ok_check_setting (P := P) (w := w) (base := base) (fun_mk (st := st_check_setting) l8 c8 k8) (PySem.W.mg_of X G a8) g_check_page g_is_setting_of
  have g_line_gaps := ok_line_gaps (P := P) (w := w) (base := base) (fun_mk (st := st_line_gaps) l9 c9 k9) (PySem.W.mg_of X G a9) g_room_of (PySem.W.mg_none_of X G z_len) (PySem.W.mg_none_of X G z_tuple) (PySem.W.mg_none_of X G z_range) (PySem.W.mg_none_of X G z_int)
  have g_all_gaps := ok_all_gaps (P := P) (w := w) (base := base) (fun_mk (st := st_all_gaps) l10 c10 k10) (PySem.W.mg_of X G a10) g_lines_of g_line_gaps
  have g_gaps_of := ok_gaps_of (P := P) (w := w) (base := base) (fun_mk (st := st_gaps_of) l11 c11 k11) (PySem.W.mg_of X G a11) g_check_setting g_all_gaps (PySem.W.mg_none_of X G z_tuple)
  have g_widest_gap := ok_widest_gap (P := P) (w := w) (base := base) (fun_mk (st := st_widest_gap) l12 c12 k12) (PySem.W.mg_of X G a12) g_check_setting g_all_gaps (PySem.W.mg_none_of X G z_max) (PySem.W.mg_none_of X G z_len)
  have g_calmest := ok_calmest (P := P) (w := w) (base := base) (fun_mk (st := st_calmest) l13 c13 k13) (PySem.W.mg_of X G a13) g_check_page g_room_of g_line_gaps (PySem.W.mg_none_of X G z_max) (PySem.W.mg_none_of X G z_range) (PySem.W.mg_none_of X G z_len) (PySem.W.mg_none_of X G z_min) ⟨_, PySem.W.mg_of X G y_MOST_WIDTH⟩
  have g__law_hand := ok__law_hand (P := P) (w := w) (base := base) (fun_mk (st := st__law_hand) l14 c14 k14) (PySem.W.mg_of X G a14) (PySem.W.mg_none_of X G z_abs) (PySem.W.mg_none_of X G z_int) (PySem.W.mg_none_of X G z_len)
  have g__law_draw := ok__law_draw (P := P) (w := w) (base := base) (fun_mk (st := st__law_draw) l15 c15 k15) (PySem.W.mg_of X G a15) (PySem.W.mg_none_of X G z_len) (PySem.W.mg_none_of X G z_int)
  have g__law_some := ok__law_some (P := P) (w := w) (base := base) (fun_mk (st := st__law_some) l16 c16 k16) (PySem.W.mg_of X G a16) g__law_draw (PySem.W.mg_none_of X G z_len)
  have g__law_words := ok__law_words (P := P) (w := w) (base := base) (fun_mk (st := st__law_words) l17 c17 k17) (PySem.W.mg_of X G a17) g__law_draw g__law_some (PySem.W.mg_none_of X G z_tuple) (PySem.W.mg_none_of X G z_range)
  have g__law_long := ok__law_long (P := P) (w := w) (base := base) (fun_mk (st := st__law_long) l18 c18 k18) (PySem.W.mg_of X G a18) (PySem.W.mg_none_of X G z_sum)
  have g__law_settings := ok__law_settings (P := P) (w := w) (base := base) (fun_mk (st := st__law_settings) l19 c19 k19) (PySem.W.mg_of X G a19) g__law_long (PySem.W.mg_none_of X G z_range) (PySem.W.mg_none_of X G z_len) (PySem.W.mg_none_of X G z_sorted)
  have g__law_gaps := ok__law_gaps (P := P) (w := w) (base := base) (fun_mk (st := st__law_gaps) l20 c20 k20) (PySem.W.mg_of X G a20) (PySem.W.mg_none_of X G z_zip) (PySem.W.mg_none_of X G z_len) (PySem.W.mg_none_of X G z_sum) (PySem.W.mg_none_of X G z_tuple) (PySem.W.mg_none_of X G z_range) (PySem.W.mg_none_of X G z_int)
  have g__law_widest := ok__law_widest (P := P) (w := w) (base := base) (fun_mk (st := st__law_widest) l21 c21 k21) (PySem.W.mg_of X G a21) g__law_gaps (PySem.W.mg_none_of X G z_max) (PySem.W.mg_none_of X G z_list)
  exact (okf_law (P := P) (w := w) (base := base) (fun_mk (st := st_law) l22 c22 k22) (PySem.W.mg_of X G a22) g__law_hand g_gaps_of g_widest_gap g_calmest g__law_words g__law_draw g__law_settings g__law_some g__law_gaps g__law_widest (PySem.W.mg_none_of X G z_tuple) (PySem.W.mg_none_of X G z_range) (PySem.W.mg_none_of X G z_min)).imp fun vs H Q E h => law_imp h
end K78
open PySem PySem.W PyProof.Rows
set_option maxHeartbeats 0 in
theorem PySem.Challenge.cw_scriptoria_k78_whole_gaps_spread_holds : PySem.Challenge.rw_scriptoria_k78_whole_gaps_spread.Holds := by
  w_on; o_law; k_head; (case hw => w_witness2)
  k_fill
  refine L2.walk_of (l := PySem.Challenge.rw_scriptoria_k78_whole_gaps_spread) (n := 63) (k := 7) (x := "script") (CX := fun w => L2.CX (PySem.Challenge.rw_scriptoria_k78_whole_gaps_spread).prog w) (sp := fun w => K78.spLaw _) rfl (by decide) rfl ⟨rfl, by decide, by decide⟩ (fun w h Y => PySem.W.kIn_of Y) ?F (fun _ _ a ns hl ho hS => ⟨a, ns, rfl, hS, hl, ho, fun _ => rfl⟩) (fun _ _ _ _ _ h => by obtain ⟨_, _, _, _, _, _, _, _, _, _, _, _, z⟩ := h; exact z)
  case F =>
    intro w mg fa h KX G hmg
    refine' K78.all_mk KX G hmg ?a0 ?l0 ?c0 ?k0 ?a1 ?l1 ?c1 ?k1 ?a2 ?l2 ?c2 ?k2 ?a3 ?l3 ?c3 ?k3 ?a4 ?l4 ?c4 ?k4 ?a5 ?l5 ?c5 ?k5 ?a6 ?l6 ?c6 ?k6 ?a7 ?l7 ?c7 ?k7 ?a8 ?l8 ?c8 ?k8 ?a9 ?l9 ?c9 ?k9 ?a10 ?l10 ?c10 ?k10 ?a11 ?l11 ?c11 ?k11 ?a12 ?l12 ?c12 ?k12 ?a13 ?l13 ?c13 ?k13 ?a14 ?l14 ?c14 ?k14 ?a15 ?l15 ?c15 ?k15 ?a16 ?l16 ?c16 ?k16 ?a17 ?l17 ?c17 ?k17 ?a18 ?l18 ?c18 ?k18 ?a19 ?l19 ?c19 ?k19 ?a20 ?l20 ?c20 ?k20 ?a21 ?l21 ?c21 ?k21 ?a22 ?l22 ?c22 ?k22 ?z_isinstance ?z_int ?z_bool ?z_tuple ?z_len ?z_all ?z_sum ?z_list ?z_zip ?z_range ?z_max ?z_min ?z_abs ?z_sorted ?y_MOST_WORDS ?y_MOST_LENGTH ?y_MOST_WIDTH
    (case a0 => k_is)
    (case l0 => k_is)
    (case c0 => k_is)
    (case k0 => k_is)
    (case a1 => k_is)
    (case l1 => k_is)
    (case c1 => k_is)
    (case k1 => k_is)
    (case a2 => k_is)
    (case l2 => k_is)
    (case c2 => k_is)
    (case k2 => k_is)
    (case a3 => k_is)
    (case l3 => k_is)
    (case c3 => k_is)
    (case k3 => k_is)
    (case a4 => k_is)
    (case l4 => k_is)
    (case c4 => k_is)
    (case k4 => k_is)
    (case a5 => k_is)
    (case l5 => k_is)
    (case c5 => k_is)
    (case k5 => k_is)
    (case a6 => k_is)
    (case l6 => k_is)
    (case c6 => k_is)
    (case k6 => k_is)
    (case a7 => k_is)
    (case l7 => k_is)
    (case c7 => k_is)
    (case k7 => k_is)
    (case a8 => k_is)
    (case l8 => k_is)
    (case c8 => k_is)
    (case k8 => k_is)
    (case a9 => k_is)
    (case l9 => k_is)
    (case c9 => k_is)
    (case k9 => k_is)
    (case a10 => k_is)
    (case l10 => k_is)
    (case c10 => k_is)
    (case k10 => k_is)
    (case a11 => k_is)
    (case l11 => k_is)
    (case c11 => k_is)
    (case k11 => k_is)
    (case a12 => k_is)
    (case l12 => k_is)
    (case c12 => k_is)
    (case k12 => k_is)
    (case a13 => k_is)
    (case l13 => k_is)
    (case c13 => k_is)
    (case k13 => k_is)
    (case a14 => k_is)
    (case l14 => k_is)
    (case c14 => k_is)
    (case k14 => k_is)
    (case a15 => k_is)
    (case l15 => k_is)
    (case c15 => k_is)
    (case k15 => k_is)
    (case a16 => k_is)
    (case l16 => k_is)
    (case c16 => k_is)
    (case k16 => k_is)
    (case a17 => k_is)
    (case l17 => k_is)
    (case c17 => k_is)
    (case k17 => k_is)
    (case a18 => k_is)
    (case l18 => k_is)
    (case c18 => k_is)
    (case k18 => k_is)
    (case a19 => k_is)
    (case l19 => k_is)
    (case c19 => k_is)
    (case k19 => k_is)
    (case a20 => k_is)
    (case l20 => k_is)
    (case c20 => k_is)
    (case k20 => k_is)
    (case a21 => k_is)
    (case l21 => k_is)
    (case c21 => k_is)
    (case k21 => k_is)
    (case a22 => k_is)
    (case l22 => k_is)
    (case c22 => k_is)
    (case k22 => k_is)
    (case z_isinstance => k_is)
    (case z_int => k_is)
    (case z_bool => k_is)
    (case z_tuple => k_is)
    (case z_len => k_is)
    (case z_all => k_is)
    (case z_sum => k_is)
    (case z_list => k_is)
    (case z_zip => k_is)
    (case z_range => k_is)
    (case z_max => k_is)
    (case z_min => k_is)
    (case z_abs => k_is)
    (case z_sorted => k_is)
    (case y_MOST_WORDS => k_is)
    (case y_MOST_LENGTH => k_is)
    (case y_MOST_WIDTH => k_is)
#print axioms PySem.Challenge.cw_scriptoria_k78_whole_gaps_spread_holds
