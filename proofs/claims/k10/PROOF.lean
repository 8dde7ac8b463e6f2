import PyProof.Rows.All
import Wide.All
import OpenK.AllK
import Wide.FinOn
import HandS.ForMost
import HandS.Wide
import HandS.Iter
import HandS.Evl
import HandS.IsInst
import HandS.NoneIn
import HandS.More
import PySem.Challenge.RW_planwhole_k10_files_keep_a_beginning
set_option Elab.async false
set_option linter.all false
set_option maxRecDepth 100000
set_option maxHeartbeats 4000000
/-! W: readings step by step (my own layer over HandS) -/
namespace W
open PySem PySem.Spec L2

/-! ### heaps -/
/-- all but S is as it was -/
def Kp (S : List Addr) (H H' : Hp) : Prop := ∀ b, b ∉ S → H b = none ∨ H' b = H b
/-- every tuple is as it was -/
def Kt (H H' : Hp) : Prop := ∀ b xs, H b = some (.tup xs) → H' b = some (.tup xs)
def Keep (S : List Addr) (H H' : Hp) : Prop := Kp S H H' ∧ Kt H H'
theorem Keep.get {S : List Addr} {H H' : Hp} {b : Addr} {o : HO} (a : Keep S H H') (h : H b = some o) (n : b ∉ S) : H' b = some o := by
  rcases a.1 b n with e | e
  · rw [h] at e; cases e
  · rw [e]; exact h
theorem Keep.of {S : List Addr} {H H' : Hp} (a : ∀ b o, b ∉ S → H b = some o → H' b = some o) (t : Kt H H') : Keep S H H' := ⟨fun b n => by
  cases e : H b with
  | none => exact .inl rfl
  | some o => rw [a b o n e]; exact .inr rfl, t⟩
theorem Keep.refl {S : List Addr} {H : Hp} : Keep S H H := ⟨fun _ _ => .inr rfl, fun _ _ h => h⟩
theorem Keep.trans {S : List Addr} {H H1 H2 : Hp} (a : Keep S H H1) (b : Keep S H1 H2) : Keep S H H2 := Keep.of (fun c o n h => b.get (a.get h n) n) fun c xs h => b.2 c xs (a.2 c xs h)
theorem Keep.mono {S S' : List Addr} {H H' : Hp} (a : Keep S H H') (h : ∀ b ∈ S, b ∈ S') : Keep S' H H' := ⟨fun c n => a.1 c (fun q => n (h c q)), a.2⟩
theorem Keep.mut {S : List Addr} {H H1 H2 : Hp} {p : Addr} (k : Keep S H H1) (np : H p = none) (k2 : Keep [p] H1 H2) : Keep S H H2 :=
  Keep.of (fun c o n h => k2.get (k.get h n) (by
    intro z
    simp at z
    rw [z, np] at h
    cases h)) fun c xs h => k2.2 c xs (k.2 c xs h)
theorem Keep.any {S : List Addr} {H H' : Hp} (a : Keep [] H H') : Keep S H H' := a.mono (by simp)
theorem Keep.same {H H' : Hp} (a : Keep [] H H') : Same H H' := fun b o h => a.get h (by simp)
theorem Same.keep {S : List Addr} {H H' : Hp} (a : Same H H') : Keep S H H' := Keep.of (fun b o _ h => a b o h) fun b xs h => a b _ h
theorem same_new {H : Hp} {p : Addr} {o : HO} (h : H p = none) : Same H (upd H p o) := fun b u e => by rw [upd_ne (ne_of_none e h)]; exact e
theorem Keep.new {S : List Addr} {H : Hp} {p : Addr} {o : HO} (h : H p = none) : Keep S H (upd H p o) := Same.keep (same_new h)
theorem Keep.put {S : List Addr} {H : Hp} {p : Addr} {o : HO} (h : p ∈ S) (nt : ∀ xs, H p ≠ some (.tup xs)) : Keep S H (upd H p o) := Keep.of (fun b u n e => by
  rw [upd_ne (fun q => n (by rw [q]; exact h))]; exact e) fun b xs e => by
  rw [upd_ne (fun q => nt xs (by rw [← q]; exact e))]; exact e
/-- behind H0 an object that H0 does not know changes -/
theorem same_mut {H H' : Hp} {p : Addr} {o : HO} (e : Same H H') (h : H p = none) : Same H (upd H' p o) := fun b u z => by rw [upd_ne (ne_of_none z h)]; exact e b u z
/-- the heap without S -/
def hid (S : List Addr) (H : Hp) : Hp := fun b => if b ∈ S then none else H b
theorem hid_same {S : List Addr} {H : Hp} : Same (hid S H) H := fun b o h => by
  unfold hid at h; split at h
  · cases h
  · exact h
theorem Keep.hid {S : List Addr} {H H' : Hp} (a : Keep S H H') : Same (hid S H) (hid S H') := fun b o h => by
  unfold W.hid at h ⊢; split at h
  · cases h
  · next n => rw [if_neg n]; exact a.get h n
theorem hid_out {S : List Addr} {H : Hp} {b : Addr} {o : HO} (h : H b = some o) (n : b ∉ S) : hid S H b = some o := by unfold hid; rw [if_neg n]; exact h
theorem hid_in {S : List Addr} {H : Hp} {b : Addr} (n : b ∈ S) : hid S H b = none := by unfold hid; rw [if_pos n]
theorem Same.hidden {S : List Addr} {G H : Hp} (s : Same G H) (h : ∀ b ∈ S, G b = none) : Same G (hid S H) := fun b o e => by
  unfold hid; rw [if_neg (fun q => by rw [h b q] at e; cases e)]; exact s b o e
/-- behind a step that keeps all but S, what stands outside of S -/
theorem Keep.behind {S : List Addr} {G H H' : Hp} (a : Keep S H H') (s : Same G H) (h : ∀ b ∈ S, G b = none) : Same G H' := fun b o e => a.get (s b o e) (fun q => by rw [h b q] at e; cases e)
theorem Same.t {K : PySem.W.Frag} {H H' : Hp} {a : Addr} {xs : List V} (e : Same H H') (h : SqT K H a xs) : SqT K H' a xs := by
  rcases h with (h | ⟨o, h⟩) | h
  · exact .inl (.inl (e _ _ h))
  · exact .inl (.inr ⟨o, e _ _ h⟩)
  · exact .inr h

theorem Keep.put0 {H : Hp} {p : Addr} {o : HO} (nt : ∀ xs, H p ≠ some (.tup xs)) : Keep [p] H (upd H p o) := Keep.put (by simp) nt
theorem put_lst {H : Hp} {p : Addr} {o : HO} {xs : List V} (h : H p = some (.lst xs)) : Keep [p] H (upd H p o) := Keep.put0 fun ys e => by rw [h] at e; cases e
theorem put_ins {H : Hp} {p : Addr} {o : HO} {C dx : Addr} {fs : List (Str × V)} (h : H p = some (.ins C dx fs)) : Keep [p] H (upd H p o) := Keep.put0 fun ys e => by rw [h] at e; cases e
theorem carry {H0 H : Hp} {a : Addr} {o : HO} (h : H0 a = some o) (k : H0 a = some o → H a = some o) : H a = some o := k h
theorem carryL {K : PySem.W.Frag} {H0 H : Hp} {a : Addr} {xs : List V} (h : SqL K H0 a xs) (k : Keep [] H0 H) : SqL K H a xs := Same.seq k.same h
theorem carryT {K : PySem.W.Frag} {H0 H : Hp} {a : Addr} {xs : List V} (h : SqT K H0 a xs) (k : Keep [] H0 H) : SqT K H a xs := Same.t k.same h
theorem Keep.free {S : List Addr} {H H' : Hp} {p : Addr} (k : Keep S H H') (h : H' p = none) (n : p ∉ S) : H p = none := by
  cases q : H p with
  | none => rfl
  | some o => rw [k.get q n] at h; cases h
/-! ### statements -/
section
variable {t u : TS} {te ta tb : TE} {g : TG} {c : TT} {nx : St → Hp → Prop} {rt : VK} {bk ct : St → Hp → Prop} {D : Ends} {σ σ0 : St} {H : Hp} {K : PySem.W.Frag}
theorem enter {N : List Str} {vs : List V} (e : start N vs = σ0) (h : t D σ0 H) : t D (start N vs) H := by rw [e]; exact h
theorem s_seq (h : t ⟨fun σ' H' => u ⟨nx, rt, bk, ct⟩ σ' H', rt, bk, ct⟩ σ H) : tSeq t u ⟨nx, rt, bk, ct⟩ σ H := h
theorem s_cut (Mid : St → Hp → Prop) (h : t ⟨Mid, rt, bk, ct⟩ σ H) (k : ∀ σ' H', Mid σ' H' → u ⟨nx, rt, bk, ct⟩ σ' H') : Evl.tCut t u ⟨nx, rt, bk, ct⟩ σ H := ⟨Mid, h, k⟩
theorem s_asg (h : te σ H fun x H1 => g x σ H1 nx) : tAsg te g ⟨nx, rt, bk, ct⟩ σ H := h
theorem s_ret (h : te σ H rt) : tRet te ⟨nx, rt, bk, ct⟩ σ H := h
theorem s_retN (h : rt .non H) : tRetN ⟨nx, rt, bk, ct⟩ σ H := h
theorem s_drop (h : te σ H fun _ H1 => nx σ H1) : tDrop te ⟨nx, rt, bk, ct⟩ σ H := h
theorem s_if (h : c σ H fun b H1 => if b = true then t D σ H1 else u D σ H1) : tIfS c t u D σ H := h
theorem s_next (h : nx σ H) : tNext ⟨nx, rt, bk, ct⟩ σ H := h
theorem s_brk (h : bk σ H) : tBreak ⟨nx, rt, bk, ct⟩ σ H := h
theorem s_cont (h : ct σ H) : tCont ⟨nx, rt, bk, ct⟩ σ H := h
theorem s_aug {i : Nat} {ti : TIp} (h : tVar i σ H fun x _ => te σ H fun y H1 => ti x y H1 fun z H2 => gName i z σ H2 nx) : tAug i te ti ⟨nx, rt, bk, ct⟩ σ H := h
def rSetF (K : PySem.W.Frag) (f : Str) (y x : V) (H : Hp) (Q : Hp → Prop) : Prop := ∃ a C dx fs, x = .ref a ∧ H a = some (.ins C dx fs) ∧ Cls K C ∧ NoAttr K C f ∧ fs.length < 1000 ∧ Q (upd H a (.ins C dx (putF f y fs)))
theorem s_fld {f : Str} (h : tb σ H fun y H1 => ta σ H1 fun x H2 => rSetF K f y x H2 fun H3 => nx σ H3) : sFld K ta tb f ⟨nx, rt, bk, ct⟩ σ H := h
theorem w_setF {f : Str} {y : V} {a C dx : Addr} {fs : List (Str × V)} {Q : Hp → Prop} (h : H a = some (.ins C dx fs)) (c : Cls K C) (n : NoAttr K C f) (l : fs.length < 1000) (q : ∀ H1, Keep [a] H H1 → H1 a = some (.ins C dx (putF f y fs)) → Q H1) : rSetF K f y (.ref a) H Q := ⟨a, C, dx, fs, rfl, h, c, n, l, q _ (put_ins h) upd_same⟩
def rGetF (K : PySem.W.Frag) (f : Str) (x : V) (H : Hp) (Q : VK) : Prop := ∃ a C dx fs v, x = .ref a ∧ H a = some (.ins C dx fs) ∧ Cls K C ∧ NoAttr K C f ∧ fs.lookup f = some v ∧ Q v H
theorem e_fld {f : Str} {Q : VK} (h : ta σ H fun x H1 => rGetF K f x H1 Q) : tFld K ta f σ H Q := h
theorem w_getF {f : Str} {v : V} {a C dx : Addr} {fs : List (Str × V)} {Q : VK} (h : H a = some (.ins C dx fs)) (c : Cls K C) (n : NoAttr K C f) (l : fs.lookup f = some v) (q : Q v H) : rGetF K f (.ref a) H Q := ⟨a, C, dx, fs, v, rfl, h, c, n, l, q⟩
theorem s_fldaug {f : Str} {rd : V → V → Hp → VK → Prop} (h : ta σ H fun x H1 => ∃ a C dx fs v, x = .ref a ∧ H1 a = some (.ins C dx fs) ∧ Cls K C ∧ NoAttr K C f ∧ fs.lookup f = some v ∧
  tb σ H1 fun y H2 => rd v y H2 fun z H3 => ∃ dx' fs', H3 a = some (.ins C dx' fs') ∧ fs'.length < 1000 ∧ nx σ (upd H3 a (.ins C dx' (putF f z fs')))) : sFldAug K ta tb rd f ⟨nx, rt, bk, ct⟩ σ H := h
theorem s_augS {to ti : TE} {tget : V → V → Hp → VK → Prop} {tip : TIp} {tset : TSet} (h : to σ H fun o H1 => ti σ H1 fun i H2 => tget o i H2 fun x H3 => te σ H3 fun y H4 => tip x y H4 fun z H5 => tset o i z H5 fun H6 => nx σ H6) : tAugS to ti te tget tip tset ⟨nx, rt, bk, ct⟩ σ H := h

/-! ### targets -/
theorem g_0 {v x : V} {a : Option V} {r : St} {Q : St → Hp → Prop} (q : Q (some v :: r) H) : gName 0 v (a :: r) H Q := q
end

section
variable {σ r : St} {H : Hp} {Q : VK} {v x : V} {P : St → Hp → Prop} {a0 a1 a2 a3 a4 a5 a6 a7 a8 a9 a10 a11 a12 a13 a14 a15 a16 a17 : Option V}
theorem v0 (q : Q v H) : tVar 0 (some v :: r) H Q := ⟨v, rfl, q⟩
theorem v1 (q : Q v H) : tVar 1 (a0 :: some v :: r) H Q := ⟨v, rfl, q⟩
theorem v2 (q : Q v H) : tVar 2 (a0 :: a1 :: some v :: r) H Q := ⟨v, rfl, q⟩
theorem v3 (q : Q v H) : tVar 3 (a0 :: a1 :: a2 :: some v :: r) H Q := ⟨v, rfl, q⟩
theorem v4 (q : Q v H) : tVar 4 (a0 :: a1 :: a2 :: a3 :: some v :: r) H Q := ⟨v, rfl, q⟩
theorem v5 (q : Q v H) : tVar 5 (a0 :: a1 :: a2 :: a3 :: a4 :: some v :: r) H Q := ⟨v, rfl, q⟩
theorem v6 (q : Q v H) : tVar 6 (a0 :: a1 :: a2 :: a3 :: a4 :: a5 :: some v :: r) H Q := ⟨v, rfl, q⟩
theorem v7 (q : Q v H) : tVar 7 (a0 :: a1 :: a2 :: a3 :: a4 :: a5 :: a6 :: some v :: r) H Q := ⟨v, rfl, q⟩
theorem v8 (q : Q v H) : tVar 8 (a0 :: a1 :: a2 :: a3 :: a4 :: a5 :: a6 :: a7 :: some v :: r) H Q := ⟨v, rfl, q⟩
theorem v9 (q : Q v H) : tVar 9 (a0 :: a1 :: a2 :: a3 :: a4 :: a5 :: a6 :: a7 :: a8 :: some v :: r) H Q := ⟨v, rfl, q⟩
theorem v10 (q : Q v H) : tVar 10 (a0 :: a1 :: a2 :: a3 :: a4 :: a5 :: a6 :: a7 :: a8 :: a9 :: some v :: r) H Q := ⟨v, rfl, q⟩
theorem v11 (q : Q v H) : tVar 11 (a0 :: a1 :: a2 :: a3 :: a4 :: a5 :: a6 :: a7 :: a8 :: a9 :: a10 :: some v :: r) H Q := ⟨v, rfl, q⟩
theorem v12 (q : Q v H) : tVar 12 (a0 :: a1 :: a2 :: a3 :: a4 :: a5 :: a6 :: a7 :: a8 :: a9 :: a10 :: a11 :: some v :: r) H Q := ⟨v, rfl, q⟩
theorem v13 (q : Q v H) : tVar 13 (a0 :: a1 :: a2 :: a3 :: a4 :: a5 :: a6 :: a7 :: a8 :: a9 :: a10 :: a11 :: a12 :: some v :: r) H Q := ⟨v, rfl, q⟩
theorem v14 (q : Q v H) : tVar 14 (a0 :: a1 :: a2 :: a3 :: a4 :: a5 :: a6 :: a7 :: a8 :: a9 :: a10 :: a11 :: a12 :: a13 :: some v :: r) H Q := ⟨v, rfl, q⟩
theorem v15 (q : Q v H) : tVar 15 (a0 :: a1 :: a2 :: a3 :: a4 :: a5 :: a6 :: a7 :: a8 :: a9 :: a10 :: a11 :: a12 :: a13 :: a14 :: some v :: r) H Q := ⟨v, rfl, q⟩
theorem v16 (q : Q v H) : tVar 16 (a0 :: a1 :: a2 :: a3 :: a4 :: a5 :: a6 :: a7 :: a8 :: a9 :: a10 :: a11 :: a12 :: a13 :: a14 :: a15 :: some v :: r) H Q := ⟨v, rfl, q⟩
theorem v17 (q : Q v H) : tVar 17 (a0 :: a1 :: a2 :: a3 :: a4 :: a5 :: a6 :: a7 :: a8 :: a9 :: a10 :: a11 :: a12 :: a13 :: a14 :: a15 :: a16 :: some v :: r) H Q := ⟨v, rfl, q⟩
theorem g0 (q : P (some v :: r) H) : gName 0 v (a0 :: r) H P := q
theorem g1 (q : P (a0 :: some v :: r) H) : gName 1 v (a0 :: a1 :: r) H P := q
theorem g2 (q : P (a0 :: a1 :: some v :: r) H) : gName 2 v (a0 :: a1 :: a2 :: r) H P := q
theorem g3 (q : P (a0 :: a1 :: a2 :: some v :: r) H) : gName 3 v (a0 :: a1 :: a2 :: a3 :: r) H P := q
theorem g4 (q : P (a0 :: a1 :: a2 :: a3 :: some v :: r) H) : gName 4 v (a0 :: a1 :: a2 :: a3 :: a4 :: r) H P := q
theorem g5 (q : P (a0 :: a1 :: a2 :: a3 :: a4 :: some v :: r) H) : gName 5 v (a0 :: a1 :: a2 :: a3 :: a4 :: a5 :: r) H P := q
theorem g6 (q : P (a0 :: a1 :: a2 :: a3 :: a4 :: a5 :: some v :: r) H) : gName 6 v (a0 :: a1 :: a2 :: a3 :: a4 :: a5 :: a6 :: r) H P := q
theorem g7 (q : P (a0 :: a1 :: a2 :: a3 :: a4 :: a5 :: a6 :: some v :: r) H) : gName 7 v (a0 :: a1 :: a2 :: a3 :: a4 :: a5 :: a6 :: a7 :: r) H P := q
theorem g8 (q : P (a0 :: a1 :: a2 :: a3 :: a4 :: a5 :: a6 :: a7 :: some v :: r) H) : gName 8 v (a0 :: a1 :: a2 :: a3 :: a4 :: a5 :: a6 :: a7 :: a8 :: r) H P := q
theorem g9 (q : P (a0 :: a1 :: a2 :: a3 :: a4 :: a5 :: a6 :: a7 :: a8 :: some v :: r) H) : gName 9 v (a0 :: a1 :: a2 :: a3 :: a4 :: a5 :: a6 :: a7 :: a8 :: a9 :: r) H P := q
theorem g10 (q : P (a0 :: a1 :: a2 :: a3 :: a4 :: a5 :: a6 :: a7 :: a8 :: a9 :: some v :: r) H) : gName 10 v (a0 :: a1 :: a2 :: a3 :: a4 :: a5 :: a6 :: a7 :: a8 :: a9 :: a10 :: r) H P := q
theorem g11 (q : P (a0 :: a1 :: a2 :: a3 :: a4 :: a5 :: a6 :: a7 :: a8 :: a9 :: a10 :: some v :: r) H) : gName 11 v (a0 :: a1 :: a2 :: a3 :: a4 :: a5 :: a6 :: a7 :: a8 :: a9 :: a10 :: a11 :: r) H P := q
theorem g12 (q : P (a0 :: a1 :: a2 :: a3 :: a4 :: a5 :: a6 :: a7 :: a8 :: a9 :: a10 :: a11 :: some v :: r) H) : gName 12 v (a0 :: a1 :: a2 :: a3 :: a4 :: a5 :: a6 :: a7 :: a8 :: a9 :: a10 :: a11 :: a12 :: r) H P := q
theorem g13 (q : P (a0 :: a1 :: a2 :: a3 :: a4 :: a5 :: a6 :: a7 :: a8 :: a9 :: a10 :: a11 :: a12 :: some v :: r) H) : gName 13 v (a0 :: a1 :: a2 :: a3 :: a4 :: a5 :: a6 :: a7 :: a8 :: a9 :: a10 :: a11 :: a12 :: a13 :: r) H P := q
theorem g14 (q : P (a0 :: a1 :: a2 :: a3 :: a4 :: a5 :: a6 :: a7 :: a8 :: a9 :: a10 :: a11 :: a12 :: a13 :: some v :: r) H) : gName 14 v (a0 :: a1 :: a2 :: a3 :: a4 :: a5 :: a6 :: a7 :: a8 :: a9 :: a10 :: a11 :: a12 :: a13 :: a14 :: r) H P := q
theorem g15 (q : P (a0 :: a1 :: a2 :: a3 :: a4 :: a5 :: a6 :: a7 :: a8 :: a9 :: a10 :: a11 :: a12 :: a13 :: a14 :: some v :: r) H) : gName 15 v (a0 :: a1 :: a2 :: a3 :: a4 :: a5 :: a6 :: a7 :: a8 :: a9 :: a10 :: a11 :: a12 :: a13 :: a14 :: a15 :: r) H P := q
end

/-! ### expressions -/
section
variable {σ : St} {H : Hp} {Q : VK} {P : Bool → Hp → Prop} {G : St → Hp → Prop} {ta tb tc te : TE} {tA tB' : TT} {tr : TA} {R : List V → Hp → Prop} {K : PySem.W.Frag} {x y z v : V} {i j : Int} {r r2 : R2}
theorem e_c (q : Q v H) : tC v σ H Q := q
theorem e_op (h : ta σ H fun x H1 => tb σ H1 fun y H2 => r x y H2 Q) : tOp r ta tb σ H Q := h
theorem e_un {r : V → Hp → VK → Prop} (h : ta σ H fun x H1 => r x H1 Q) : tUn r ta σ H Q := h
theorem e_if (h : tA σ H fun c H1 => if c = true then ta σ H1 Q else tb σ H1 Q) : tIf tA ta tb σ H Q := h
theorem e_CB {r : List V → Hp → VK → Prop} (h : tr σ H fun vs H1 => r vs H1 Q) : tCB r tr σ H Q := h
theorem e_call {sp : Sp} {dvs : List V} {E : XK} (h : tr σ H fun vs H1 => sp (vs ++ dvs) H1 Q E) : tCall sp dvs E tr σ H Q := h
def rNewL (xs : List V) (H : Hp) (Q : VK) : Prop := xs.length ≤ sizeLine ∧ ∀ p, H p = none → Q (.ref p) (upd H p (.lst xs))
def rNewT (xs : List V) (H : Hp) (Q : VK) : Prop := xs.length ≤ sizeLine ∧ ∀ p, H p = none → Q (.ref p) (upd H p (.tup xs))
theorem w_newL {xs : List V} (h : xs.length ≤ sizeLine) (q : ∀ p H1, H p = none → Keep [] H H1 → H1 p = some (.lst xs) → Q (.ref p) H1) : rNewL xs H Q := ⟨h, fun p hp => q p _ hp (Keep.new hp) upd_same⟩
theorem w_newT {xs : List V} (h : xs.length ≤ sizeLine) (q : ∀ p H1, H p = none → Keep [] H H1 → H1 p = some (.tup xs) → Q (.ref p) H1) : rNewT xs H Q := ⟨h, fun p hp => q p _ hp (Keep.new hp) upd_same⟩
theorem e_lst (h : tr σ H fun xs H1 => rNewL xs H1 Q) : tLst tr σ H Q := h
theorem e_tup (h : tr σ H fun xs H1 => rNewT xs H1 Q) : tTup tr σ H Q := h
theorem a_nil (h : R [] H) : tNil σ H R := h
theorem a_cons (h : ta σ H fun x H1 => tr σ H1 fun xs H2 => R (x :: xs) H2) : tCons ta tr σ H R := h
theorem e_sl {r : V → Option Int → Option Int → Hp → VK → Prop} {tl th : TO} (h : te σ H fun x H1 => tl σ H1 fun l H2 => th σ H2 fun u H3 => r x l u H3 Q) : tSl r te tl th σ H Q := h
theorem o_none {R : Option Int → Hp → Prop} (h : R none H) : tNoPart σ H R := h
def rPart (x : V) (H : Hp) (R : Option Int → Hp → Prop) : Prop := ∃ i, x = .int i ∧ R (some i) H
theorem o_some {R : Option Int → Hp → Prop} (h : te σ H fun x H1 => rPart x H1 R) : tPart te σ H R := h
theorem w_part {R : Option Int → Hp → Prop} (h : R (some i) H) : rPart (.int i) H R := ⟨i, rfl, h⟩
def rRecv (K : PySem.W.Frag) (T : String) (x : V) (H : Hp) (R : Prop) : Prop := tyV K T x H ∧ R
theorem e_bm {T : String} {r : V → List V → Hp → VK → Prop} (h : te σ H fun x H1 => rRecv K T x H1 (tr σ H1 fun xs H2 => r x xs H2 Q)) : tBM K T r te tr σ H Q := h
theorem e_bm0 {T : String} {r : V → List V → Hp → VK → Prop} (h : te σ H fun x H1 => rRecv K T x H1 (r x [] H1 Q)) : tBM0 K T r te σ H Q := h
def rMeth (C : Addr) (m : Str) (x : V) (H : Hp) (R : Prop) : Prop := ∃ a dx fs, x = .ref a ∧ H a = some (.ins C dx fs) ∧ fs.lookup m = none ∧ R
theorem e_meth {C : Addr} {m : Str} {sp : Sp} {dvs : List V} {E : XK} (h : ta σ H fun x H1 => rMeth C m x H1 (tr σ H1 fun vs H2 => sp (x :: (vs ++ dvs)) H2 Q E)) : tMeth C m sp dvs E ta tr σ H Q := h
theorem w_meth {C : Addr} {m : Str} {a dx : Addr} {fs : List (Str × V)} {R : Prop} (h : H a = some (.ins C dx fs)) (n : fs.lookup m = none) (q : R) : rMeth C m (.ref a) H R := ⟨a, dx, fs, rfl, h, n, q⟩
def rMake (C : Addr) (sp : Sp) (vs : List V) (H : Hp) (E : XK) (Q : VK) : Prop := ∀ x dx, H x = none → H dx = none → dx ≠ x → sp (.ref x :: vs) (upd (upd H dx (.own x)) x (.ins C dx [])) (fun v H2 => v = .non ∧ Q (.ref x) H2) E
theorem e_make {C : Addr} {sp : Sp} {dvs : List V} {E : XK} (h : tr σ H fun vs H1 => rMake C sp (vs ++ dvs) H1 E Q) : tMake C sp dvs E tr σ H Q := h
theorem w_make {C : Addr} {sp : Sp} {vs : List V} {E : XK} (q : ∀ x dx H1, H x = none → Keep [] H H1 → H1 x = some (.ins C dx []) → sp (.ref x :: vs) H1 (fun v H2 => v = .non ∧ Q (.ref x) H2) E) : rMake C sp vs H E Q := fun x dx hx hd ne =>
  q x dx _ hx (Keep.trans (Keep.new hd) (Keep.new (by rw [upd_ne (Ne.symm ne)]; exact hx))) upd_same
/-! tests -/
def rB (x : V) (H : Hp) (P : Bool → Hp → Prop) : Prop := ∃ k, x = .bl k ∧ P k H
theorem t_test (h : te σ H fun x H' => rB x H' P) : tTest te σ H P := h
theorem t_B (h : te σ H fun x H' => rB x H' P) : tB te σ H P := h
theorem w_B {b : Bool} (h : P b H) : rB (.bl b) H P := ⟨b, rfl, h⟩
theorem t_and (h : tA σ H fun c H1 => if c = true then tB' σ H1 P else P false H1) : tAnd tA tB' σ H P := h
theorem t_or (h : tA σ H fun c H1 => if c = true then P true H1 else tB' σ H1 P) : tOr tA tB' σ H P := h
theorem t_not (h : tA σ H fun c H1 => P (!c) H1) : tNot tA σ H P := h
def rBV (x : V) (H : Hp) (R : Bool → Prop) : Prop := ∃ c, x = .bl c ∧ R c
theorem w_BV {b : Bool} {R : Bool → Prop} (h : R b) : rBV (.bl b) H R := ⟨b, rfl, h⟩
theorem e_andV (h : ta σ H fun x H1 => rBV x H1 fun c => if c = true then tb σ H1 Q else Q (.bl false) H1) : tAndV ta tb σ H Q := h
theorem e_orV (h : ta σ H fun x H1 => rBV x H1 fun c => if c = true then Q (.bl true) H1 else tb σ H1 Q) : tOrV ta tb σ H Q := h
theorem e_notV (h : ta σ H fun x H1 => rBV x H1 fun c => Q (.bl (!c)) H1) : tNotV ta σ H Q := h
theorem e_chain (h : ta σ H fun x H1 => tb σ H1 fun y H2 => r x y H2 fun z H3 => rBV z H3 fun k => if k = true then tc σ H3 fun w' H4 => r2 y w' H4 Q else Q (.bl false) H3) : tChain r r2 ta tb tc σ H Q := h
/-! values -/
theorem w_I0 {g : Int → Int → V} (q : Q (g i j) H) : rI0 g (.int i) (.int j) H Q := ⟨i, j, rfl, rfl, q⟩
theorem w_I {C : Int → Int → Prop} {g : Int → Int → V} (c : C i j) (q : Q (g i j) H) : rI C g (.int i) (.int j) H Q := ⟨i, j, rfl, rfl, c, q⟩
theorem w_U {g : Int → V} (q : Q (g i) H) : rU g (.int i) H Q := ⟨i, rfl, q⟩
theorem w_eqI (q : Q (.bl (decide (i = j))) H) : rEq (.int i) (.int j) H Q := ⟨rfl, by
  have e : decide (V.int i = V.int j) = decide (i = j) := by
    by_cases h : i = j
    · subst h; simp
    · rw [decide_eq_false h, decide_eq_false (fun q => h (V.int.inj q))]
  rw [e]; exact q⟩
theorem w_neI (q : Q (.bl (!decide (i = j))) H) : rNe (.int i) (.int j) H Q := ⟨rfl, by
  have e : decide (V.int i = V.int j) = decide (i = j) := by
    by_cases h : i = j
    · subst h; simp
    · rw [decide_eq_false h, decide_eq_false (fun q => h (V.int.inj q))]
  rw [e]; exact q⟩
theorem w_eqS {s t : Str} (q : Q (.bl (decide (s = t))) H) : rEq (.str s) (.str t) H Q := ⟨rfl, by
  have e : decide (V.str s = V.str t) = decide (s = t) := by
    by_cases h : s = t
    · subst h; simp
    · rw [decide_eq_false h, decide_eq_false (fun q => h (V.str.inj q))]
  rw [e]; exact q⟩
theorem w_neS {s t : Str} (q : Q (.bl (!decide (s = t))) H) : rNe (.str s) (.str t) H Q := ⟨rfl, by
  have e : decide (V.str s = V.str t) = decide (s = t) := by
    by_cases h : s = t
    · subst h; simp
    · rw [decide_eq_false h, decide_eq_false (fun q => h (V.str.inj q))]
  rw [e]; exact q⟩
theorem w_eqB {s t : Bool} (q : Q (.bl (decide (s = t))) H) : rEq (.bl s) (.bl t) H Q := ⟨rfl, by
  have e : decide (V.bl s = V.bl t) = decide (s = t) := by
    by_cases h : s = t
    · subst h; simp
    · rw [decide_eq_false h, decide_eq_false (fun q => h (V.bl.inj q))]
  rw [e]; exact q⟩
theorem w_neB {s t : Bool} (q : Q (.bl (!decide (s = t))) H) : rNe (.bl s) (.bl t) H Q := ⟨rfl, by
  have e : decide (V.bl s = V.bl t) = decide (s = t) := by
    by_cases h : s = t
    · subst h; simp
    · rw [decide_eq_false h, decide_eq_false (fun q => h (V.bl.inj q))]
  rw [e]; exact q⟩
theorem w_neN (q : Q (.bl true) H) : rNe (.int i) .non H Q := ⟨rfl, q⟩
theorem w_eqN (q : Q (.bl false) H) : rEq (.int i) .non H Q := ⟨rfl, q⟩
theorem w_ixL {p : Addr} {xs : List V} {n : Nat} (h : SqL K H p xs) (e : atI xs i = some v) (q : Q v H) : rIxL K (.ref p) (.int i) H Q := ⟨p, xs, i, v, rfl, rfl, h, e, q⟩
theorem w_ixT {p : Addr} {xs : List V} {n : Nat} (h : SqT K H p xs) (e : atI xs i = some v) (q : Q v H) : rIxT K (.ref p) (.int i) H Q := ⟨p, xs, i, v, rfl, rfl, h, e, q⟩
theorem w_aug {f : Int → Int → Int} (q : Q (.int (f i j)) H) : ipI f (.int i) (.int j) H Q := ⟨i, j, rfl, rfl, q⟩
theorem w_app {l : Addr} {xs : List V} (h : H l = some (.lst xs)) (z : xs.length < sizeLine) (q : ∀ H1, Keep [l] H H1 → H1 l = some (.lst (xs ++ [y])) → Q .non H1) : rAppend (.ref l) [y] H Q := ⟨l, xs, y, rfl, rfl, h, z, q _ (put_lst h) upd_same⟩
theorem w_ext {l b : Addr} {xs zs : List V} (h : H l = some (.lst xs)) (h2 : H b = some (.lst zs)) (z : xs.length + zs.length ≤ sizeLine) (q : ∀ H1, Keep [l] H H1 → H1 l = some (.lst (xs ++ zs)) → Q .non H1) : rExtend (.ref l) [.ref b] H Q := ⟨l, b, xs, zs, rfl, rfl, h, h2, z, q _ (put_lst h) upd_same⟩
theorem w_recv {l : Addr} {xs : List V} {R : Prop} (h : SqL K H l xs) (q : R) : rRecv K "list" (.ref l) H R := ⟨.inl ⟨rfl, xs, h⟩, q⟩
theorem w_tyL {l : Addr} {xs : List V} (h : SqL K H l xs) : tyV K "list" (.ref l) H := .inl ⟨rfl, xs, h⟩
end

/-! ### built-ins by names of their own -/
def rLen (K : PySem.W.Frag) : List V → Hp → VK → Prop := fun xs H Q => ∃ p ys, xs = [.ref p] ∧ (SqL K H p ys ∨ SqT K H p ys) ∧ Q (.int ys.length) H
def rLenS : List V → Hp → VK → Prop := fun xs H Q => ∃ z : Str, xs = [.str z] ∧ z.length ≤ sizeLine ∧ Q (.int z.length) H
def rListL (K : PySem.W.Frag) : List V → Hp → VK → Prop := fun xs H Q => ∃ p ys, xs = [.ref p] ∧ (SqL K H p ys ∨ SqT K H p ys) ∧ ∀ l, H l = none → Q (.ref l) (upd H l (.lst ys))
def rTupL (K : PySem.W.Frag) : List V → Hp → VK → Prop := fun xs H Q => ∃ p ys, xs = [.ref p] ∧ ((SqL K H p ys ∧ ∀ l, H l = none → Q (.ref l) (upd H l (.tup ys))) ∨ (SqT K H p ys ∧ Q (.ref p) H))
def rInt1 : List V → Hp → VK → Prop := fun xs H Q => (∃ i, xs = [.int i] ∧ Q (.int i) H) ∨ ∃ k, xs = [.bl k] ∧ Q (.int (if k then 1 else 0)) H
def rMin2 : List V → Hp → VK → Prop := fun xs H Q => ∃ i j, xs = [.int i, .int j] ∧ Q (.int (if j < i then j else i)) H
def rMax2 : List V → Hp → VK → Prop := fun xs H Q => ∃ i j, xs = [.int i, .int j] ∧ Q (.int (if j > i then j else i)) H
def rIsNo : R2 := fun x y H Q => y = .non ∧ Q (.bl (decide (x = .non))) H
def rIsNot : R2 := fun x y H Q => y = .non ∧ Q (.bl (!decide (x = .non))) H
def rAddS : R2 := fun x y H Q => ∃ i j, x = .str i ∧ y = .str j ∧ i.length + j.length ≤ sizeLine ∧ Q (.str (i ++ j)) H
def rIxLT (K : PySem.W.Frag) : R2 := fun x y H Q => rIxL K x y H Q ∨ rIxT K x y H Q
section
variable {X : Cx}
theorem call_lenL : CallR X (.builtin "len") (rLen X.K) := call_len_seq
theorem call_lenS : CallR X (.builtin "len") rLenS := call_len_str
theorem call_listL : CallR X (.type "list") (rListL X.K) := call_list_of
theorem call_tupleL : CallR X (.type "tuple") (rTupL X.K) := call_tuple_of
theorem call_int : CallR X (.type "int") rInt1 := call_int1
theorem call_min (hc : X.calm = true) : CallR X (.builtin "min") rMin2 := call_min2 hc
theorem call_max (hc : X.calm = true) : CallR X (.builtin "max") rMax2 := call_max2 hc
theorem op_isNo : OpR X (compareOp .Is) rIsNo := op_isN
theorem op_isNot : OpR X (compareOp .IsNot) rIsNot := op_notN
theorem op_addS : OpR X (binaryOp .Add) rAddS := op_add_str
theorem ix_lt : IxR X (rIxLT X.K) := ix_list.or ix_tup
end
section
variable {H : Hp} {Q : VK} {K : PySem.W.Frag} {p : Addr} {ys : List V}
theorem w_int {i : Int} (q : Q (.int i) H) : rInt1 [.int i] H Q := .inl ⟨i, rfl, q⟩
theorem w_intB {k : Bool} (q : Q (.int (if k then 1 else 0)) H) : rInt1 [.bl k] H Q := .inr ⟨k, rfl, q⟩
theorem w_min {i j : Int} (q : Q (.int (if j < i then j else i)) H) : rMin2 [.int i, .int j] H Q := ⟨i, j, rfl, q⟩
theorem w_max {i j : Int} (q : Q (.int (if j > i then j else i)) H) : rMax2 [.int i, .int j] H Q := ⟨i, j, rfl, q⟩
theorem w_isN (q : Q (.bl true) H) : rIsNo .non .non H Q := ⟨rfl, q⟩
theorem w_isI {i : Int} (q : Q (.bl false) H) : rIsNo (.int i) .non H Q := ⟨rfl, q⟩
theorem w_isS {z : Str} (q : Q (.bl false) H) : rIsNo (.str z) .non H Q := ⟨rfl, q⟩
theorem w_isB {b : Bool} (q : Q (.bl false) H) : rIsNo (.bl b) .non H Q := ⟨rfl, q⟩
theorem w_isR {a : Addr} (q : Q (.bl false) H) : rIsNo (.ref a) .non H Q := ⟨rfl, q⟩
theorem w_notN (q : Q (.bl false) H) : rIsNot .non .non H Q := ⟨rfl, q⟩
theorem w_notI {i : Int} (q : Q (.bl true) H) : rIsNot (.int i) .non H Q := ⟨rfl, q⟩
theorem w_notR {a : Addr} (q : Q (.bl true) H) : rIsNot (.ref a) .non H Q := ⟨rfl, q⟩
theorem w_notS {z : Str} (q : Q (.bl true) H) : rIsNot (.str z) .non H Q := ⟨rfl, q⟩
theorem w_addS {s t : Str} (h : s.length + t.length ≤ sizeLine) (q : Q (.str (s ++ t)) H) : rAddS (.str s) (.str t) H Q := ⟨s, t, rfl, rfl, h, q⟩
theorem w_eqNI {j : Int} (q : Q (.bl false) H) : rEq .non (.int j) H Q := ⟨rfl, q⟩
theorem w_neNI {j : Int} (q : Q (.bl true) H) : rNe .non (.int j) H Q := ⟨rfl, q⟩
theorem w_ixLTl {xs : List V} {i : Int} {v : V} (h : SqL K H p xs) (e : atI xs i = some v) (q : Q v H) : rIxLT K (.ref p) (.int i) H Q := .inl ⟨p, xs, i, v, rfl, rfl, h, e, q⟩
theorem w_ixLTt {xs : List V} {i : Int} {v : V} (h : SqT K H p xs) (e : atI xs i = some v) (q : Q v H) : rIxLT K (.ref p) (.int i) H Q := .inr ⟨p, xs, i, v, rfl, rfl, h, e, q⟩
theorem w_set {xs : List V} {k : Int} {v : V} {j : Nat} {R : Hp → Prop} (h : H p = some (.lst xs)) (e : ixN xs.length k = some j) (q : ∀ H1, Keep [p] H H1 → H1 p = some (.lst (xs.set j v)) → R H1) : rSetL (.ref p) (.int k) v H R := ⟨p, xs, k, j, rfl, rfl, h, e, q _ (put_lst h) upd_same⟩
theorem w_cat {a b : Addr} {xs zs : List V} (h : H a = some (.lst xs)) (h2 : H b = some (.lst zs)) (z : xs.length + zs.length ≤ sizeLine) (q : ∀ l H1, H l = none → Keep [] H H1 → H1 l = some (.lst (xs ++ zs)) → Q (.ref l) H1) : rCat (.ref a) (.ref b) H Q := ⟨a, b, xs, zs, rfl, rfl, h, h2, z, fun l hl => q l _ hl (Keep.new hl) upd_same⟩
theorem w_slL {xs : List V} {lo hi : Option Int} (h : SqL K H p xs) (q : ∀ l H1, H l = none → Keep [] H H1 → H1 l = some (.lst (cutV xs lo hi)) → Q (.ref l) H1) : rSlL K (.ref p) lo hi H Q := ⟨p, xs, rfl, h, fun l hl => q l _ hl (Keep.new hl) upd_same⟩
theorem w_slS {z : Str} {lo hi : Option Int} (h : z.length ≤ sizeLine) (q : Q (.str (cutS z lo hi)) H) : rSlS (.str z) lo hi H Q := ⟨z, rfl, h, q⟩
theorem w_ixS {z : Str} {i : Int} {c : Nat} (h : z.length ≤ sizeLine) (e : atI z.cps.toList i = some c) (q : Q (.str ⟨#[c]⟩) H) : rIxS (.str z) (.int i) H Q := ⟨z, i, c, rfl, rfl, h, e, q⟩
theorem w_lenL (h : SqL K H p ys) (q : Q (.int ys.length) H) : rLen K [.ref p] H Q := ⟨p, ys, rfl, .inl h, q⟩
theorem w_lenT (h : SqT K H p ys) (q : Q (.int ys.length) H) : rLen K [.ref p] H Q := ⟨p, ys, rfl, .inr h, q⟩
theorem w_lenS {z : Str} (h : z.length ≤ sizeLine) (q : Q (.int z.length) H) : rLenS [.str z] H Q := ⟨z, rfl, h, q⟩
theorem w_listL (h : SqL K H p ys) (q : ∀ l H1, H l = none → Keep [] H H1 → H1 l = some (.lst ys) → Q (.ref l) H1) : rListL K [.ref p] H Q := ⟨p, ys, rfl, .inl h, fun l hl => q l _ hl (Keep.new hl) upd_same⟩
theorem w_listT (h : SqT K H p ys) (q : ∀ l H1, H l = none → Keep [] H H1 → H1 l = some (.lst ys) → Q (.ref l) H1) : rListL K [.ref p] H Q := ⟨p, ys, rfl, .inr h, fun l hl => q l _ hl (Keep.new hl) upd_same⟩
theorem w_tupL (h : SqL K H p ys) (q : ∀ l H1, H l = none → Keep [] H H1 → H1 l = some (.tup ys) → Q (.ref l) H1) : rTupL K [.ref p] H Q := ⟨p, ys, rfl, .inl ⟨h, fun l hl => q l _ hl (Keep.new hl) upd_same⟩⟩
end

/-! ### xs[i] op= e -/
section
variable {X : Cx}
open PyProof.Rows in
theorem get_list : PGet X (rIxL X.K) := by
  intro pins s σ H o i ov iv Q I ro ri h
  obtain ⟨p, xs, i, z, rfl, rfl, hq, he, q⟩ := h
  cases ro
  obtain ⟨t, rfl⟩ := ri
  obtain ⟨its, r, pl, hz⟩ := I.list hq
  obtain ⟨j, h1, h2, h3, h4, h5⟩ := atI_get he
  obtain ⟨w, ew, rw'⟩ := r.get h2
  have hl := r.length
  have hn := line63
  have fin : EP X pins σ Q w s := ⟨z, H, I, rw', q⟩
  by_cases h0 : 0 ≤ i
  · have hj : i.toNat = j := by
      rw [seqIndex_of h0 h5] at h1
      exact Option.some.inj h1
    exact wpAny_getItem_list pl.isList h0 (by omega) (by rw [hj]; simpa using ew) fin
  · have hj : (i + (its.toArray.size : Int)).toNat = j := by
      rw [seqIndex_neg (by omega) h4] at h1
      rw [List.size_toArray, ← hl]
      exact Option.some.inj h1
    exact wpAny_getItem_list_neg pl.isList (by omega) (by rw [List.size_toArray] <;> omega) (by omega) (by rw [hj]; simpa using ew) fin
end

/-! ### loops -/
section
variable {K : PySem.W.Frag} {g : TG} {tb : TS} {nx : L2.St → Hp → Prop} {rt : VK} {bk ct : L2.St → Hp → Prop} {D : Ends} {σ : L2.St} {H : Hp} {tl : TE} {ta : TA} {a b : Addr} {xs ys : List V}
def kForL (K : PySem.W.Frag) (g : TG) (tb : TS) (D : Ends) (σ : L2.St) (x : V) (H : Hp) : Prop := tFor (iList K (tC x)) g tb D σ H
def kForT (K : PySem.W.Frag) (g : TG) (tb : TS) (D : Ends) (σ : L2.St) (x : V) (H : Hp) : Prop := tFor (iTup K (tC x)) g tb D σ H
def kForS (g : TG) (tb : TS) (D : Ends) (σ : L2.St) (x : V) (H : Hp) : Prop := tFor (iStr (tC x)) g tb D σ H
def kForR1 (g : TG) (tb : TS) (D : Ends) (σ : L2.St) (vs : List V) (H : Hp) : Prop := tFor (iRng1 fun _ H R => R vs H) g tb D σ H
def kForR2 (g : TG) (tb : TS) (D : Ends) (σ : L2.St) (vs : List V) (H : Hp) : Prop := tFor (iRng2 fun _ H R => R vs H) g tb D σ H
def kForR3 (g : TG) (tb : TS) (D : Ends) (σ : L2.St) (vs : List V) (H : Hp) : Prop := tFor (iRng3 fun _ H R => R vs H) g tb D σ H
def kForZ (K : PySem.W.Frag) (g : TG) (tb : TS) (D : Ends) (σ : L2.St) (vs : List V) (H : Hp) : Prop := tFor (iZip K fun _ H R => R vs H) g tb D σ H
def kForE (K : PySem.W.Frag) (g : TG) (tb : TS) (D : Ends) (σ : L2.St) (vs : List V) (H : Hp) : Prop := tFor (iEnum K fun _ H R => R vs H) g tb D σ H
theorem s_forL (h : tl σ H fun x H1 => kForL K g tb D σ x H1) : tFor (iList K tl) g tb D σ H := h
theorem s_forT (h : tl σ H fun x H1 => kForT K g tb D σ x H1) : tFor (iTup K tl) g tb D σ H := h
theorem s_forS (h : tl σ H fun x H1 => kForS g tb D σ x H1) : tFor (iStr tl) g tb D σ H := h
theorem s_forR1 (h : ta σ H fun vs H1 => kForR1 g tb D σ vs H1) : tFor (iRng1 ta) g tb D σ H := h
theorem s_forR2 (h : ta σ H fun vs H1 => kForR2 g tb D σ vs H1) : tFor (iRng2 ta) g tb D σ H := h
theorem s_forR3 (h : ta σ H fun vs H1 => kForR3 g tb D σ vs H1) : tFor (iRng3 ta) g tb D σ H := h
theorem s_forZ (h : ta σ H fun vs H1 => kForZ K g tb D σ vs H1) : tFor (iZip K ta) g tb D σ H := h
theorem s_forE (h : ta σ H fun vs H1 => kForE K g tb D σ vs H1) : tFor (iEnum K ta) g tb D σ H := h
theorem forL (h : SqL K H a xs) (Pv : Nat → L2.St → Hp → Prop) (h0 : Pv 0 σ H) (hl : ∀ i σ H, i ≤ xs.length → Pv i σ H → SqL K H a xs)
    (hs : ∀ i x σ H, xs[i]? = some x → Pv i σ H → g x σ H fun σ2 H2 => tb ⟨Pv (i + 1), rt, nx, Pv (i + 1)⟩ σ2 H2) (hd : ∀ σ H, Pv xs.length σ H → nx σ H) : kForL K g tb ⟨nx, rt, bk, ct⟩ σ (.ref a) H :=
  ⟨a, rfl, ⟨xs, h⟩, for_list Pv h0 hl hs hd⟩
theorem forT (h : SqT K H a xs) (Pv : Nat → L2.St → Hp → Prop) (h0 : Pv 0 σ H) (hl : ∀ i σ H, i ≤ xs.length → Pv i σ H → SqT K H a xs)
    (hs : ∀ i x σ H, xs[i]? = some x → Pv i σ H → g x σ H fun σ2 H2 => tb ⟨Pv (i + 1), rt, nx, Pv (i + 1)⟩ σ2 H2) (hd : ∀ σ H, Pv xs.length σ H → nx σ H) : kForT K g tb ⟨nx, rt, bk, ct⟩ σ (.ref a) H :=
  ⟨a, rfl, ⟨xs, h⟩, for_tup Pv h0 hl hs hd⟩
theorem forR1 {n : Int} (h1 : -(2 ^ 62) ≤ n) (h2 : n < 2 ^ 62) (Pv : Nat → L2.St → Hp → Prop) (h0 : Pv 0 σ H)
    (hs : ∀ (i : Nat) σ H, (i : Int) < n → Pv i σ H → g (.int (i : Int)) σ H fun σ2 H2 => tb ⟨Pv (i + 1), rt, nx, Pv (i + 1)⟩ σ2 H2) (hd : ∀ σ H, Pv n.toNat σ H → nx σ H) : kForR1 g tb ⟨nx, rt, bk, ct⟩ σ [.int n] H :=
  ⟨n, rfl, h1, h2, for_range (lo := 0) (n := n.toNat) Pv h0 (fun i σ' H' hi p => by
    have e0 : (0 : Int) + (i : Int) = (i : Int) := Int.zero_add _
    rw [e0]
    exact hs i σ' H' (by omega) p) hd⟩
theorem forR2 {lo n : Int} (hb : -(2 ^ 62) ≤ lo ∧ lo < 2 ^ 62 ∧ -(2 ^ 62) ≤ n ∧ n < 2 ^ 62) (Pv : Nat → L2.St → Hp → Prop) (h0 : Pv 0 σ H)
    (hs : ∀ (i : Nat) σ H, lo + (i : Int) < n → Pv i σ H → g (.int (lo + (i : Int))) σ H fun σ2 H2 => tb ⟨Pv (i + 1), rt, nx, Pv (i + 1)⟩ σ2 H2) (hd : ∀ σ H, Pv (n - lo).toNat σ H → nx σ H) : kForR2 g tb ⟨nx, rt, bk, ct⟩ σ [.int lo, .int n] H :=
  ⟨lo, n, rfl, hb, for_range (lo := lo) (n := (n - lo).toNat) Pv h0 (fun i σ' H' hi p => hs i σ' H' (by omega) p) hd⟩
/-! while -/
def rTurn (W : Nat → L2.St → Hp → Prop) (m : Nat) (tb : TS) (D : Ends) (σ : L2.St) (H : Hp) : Prop := ∃ N : L2.St → Hp → Prop, (∀ σ' H', N σ' H' → ∃ m', m' < m ∧ W m' σ' H') ∧ tb { D with nx := N, ct := N, bk := D.nx } σ H
theorem turn {W : Nat → L2.St → Hp → Prop} {m : Nat} (h : tb ⟨fun σ' H' => ∃ m', m' < m ∧ W m' σ' H', rt, nx, fun σ' H' => ∃ m', m' < m ∧ W m' σ' H'⟩ σ H) : rTurn W m tb ⟨nx, rt, bk, ct⟩ σ H := ⟨_, fun _ _ x => x, h⟩
theorem while_ {c : TT} (W : Nat → L2.St → Hp → Prop) (m0 : Nat) (h0 : W m0 σ H) (hs : ∀ m σ H, W m σ H → c σ H fun b H1 => if b = true then rTurn W m tb ⟨nx, rt, bk, ct⟩ σ H1 else nx σ H1) : tWhile c tb ⟨nx, rt, bk, ct⟩ σ H :=
  ⟨W, ⟨m0, h0⟩, hs⟩
/-! comprehensions -/
variable {tt : TT} {te : TE} {vs : List Nat} {Q : VK}
def kLcL (K : PySem.W.Frag) (g : TG) (tt : TT) (te : TE) (vs : List Nat) (σ : L2.St) (x : V) (H : Hp) (Q : VK) : Prop := tLc (iList K (tC x)) g tt te vs σ H Q
def kLcR1 (g : TG) (tt : TT) (te : TE) (vs : List Nat) (σ : L2.St) (zs : List V) (H : Hp) (Q : VK) : Prop := tLc (iRng1 fun _ H R => R zs H) g tt te vs σ H Q
def kLcR2 (g : TG) (tt : TT) (te : TE) (vs : List Nat) (σ : L2.St) (zs : List V) (H : Hp) (Q : VK) : Prop := tLc (iRng2 fun _ H R => R zs H) g tt te vs σ H Q
def kLcZ (K : PySem.W.Frag) (g : TG) (tt : TT) (te : TE) (vs : List Nat) (σ : L2.St) (zs : List V) (H : Hp) (Q : VK) : Prop := tLc (iZip K fun _ H R => R zs H) g tt te vs σ H Q
def kLcS (g : TG) (tt : TT) (te : TE) (vs : List Nat) (σ : L2.St) (x : V) (H : Hp) (Q : VK) : Prop := tLc (iStr (tC x)) g tt te vs σ H Q
theorem e_lcL (h : tl σ H fun x H1 => kLcL K g tt te vs σ x H1 Q) : tLc (iList K tl) g tt te vs σ H Q := h
theorem e_lcR1 (h : ta σ H fun zs H1 => kLcR1 g tt te vs σ zs H1 Q) : tLc (iRng1 ta) g tt te vs σ H Q := h
theorem e_lcR2 (h : ta σ H fun zs H1 => kLcR2 g tt te vs σ zs H1 Q) : tLc (iRng2 ta) g tt te vs σ H Q := h
theorem e_lcZ (h : ta σ H fun zs H1 => kLcZ K g tt te vs σ zs H1 Q) : tLc (iZip K ta) g tt te vs σ H Q := h
theorem e_lcS (h : tl σ H fun x H1 => kLcS g tt te vs σ x H1 Q) : tLc (iStr tl) g tt te vs σ H Q := h
def rApp (D : Addr) (y : V) (H : Hp) (R : Hp → Prop) : Prop := ∃ acc, H D = some (.lst acc) ∧ acc.length < sizeLine ∧ R (upd H D (.lst (acc ++ [y])))
theorem lcL (h : SqL K H a xs) (Pv : Addr → Nat → Hp → Prop) (h0 : ∀ D H1, H D = none → Keep [] H H1 → H1 D = some (.lst []) → Pv D 0 H1) (hl : ∀ D i H, i ≤ xs.length → Pv D i H → SqL K H a xs)
    (hs : ∀ D i x H', H D = none → xs[i]? = some x → Pv D i H' → g x (wipe σ vs) H' fun σ2 H2 => wipe σ2 vs = wipe σ vs ∧ tt σ2 H2 fun b H3 => if b = true then te σ2 H3 fun y H4 => rApp D y H4 (Pv D (i + 1)) else Pv D (i + 1) H3)
    (hd : ∀ D H', H D = none → Pv D xs.length H' → Q (.ref D) H') : kLcL K g tt te vs σ (.ref a) H Q :=
  ⟨a, rfl, ⟨xs, h⟩, fun D hD => lc_list (Pv D) (h0 D _ hD (Keep.new hD) upd_same) (hl D) (fun i x H' hi p => hs D i x H' hD hi p) (fun H' p => hd D H' hD p)⟩
theorem lcR1 {n : Int} (h1 : -(2 ^ 62) ≤ n) (h2 : n < 2 ^ 62) (Pv : Addr → Nat → Hp → Prop) (h0 : ∀ D H1, H D = none → Keep [] H H1 → H1 D = some (.lst []) → Pv D 0 H1)
    (hs : ∀ D (i : Nat) H', H D = none → (i : Int) < n → Pv D i H' → g (.int (i : Int)) (wipe σ vs) H' fun σ2 H2 => wipe σ2 vs = wipe σ vs ∧ tt σ2 H2 fun b H3 => if b = true then te σ2 H3 fun y H4 => rApp D y H4 (Pv D (i + 1)) else Pv D (i + 1) H3)
    (hd : ∀ D H', H D = none → Pv D n.toNat H' → Q (.ref D) H') : kLcR1 g tt te vs σ [.int n] H Q :=
  ⟨n, rfl, h1, h2, fun D hD => lc_range (lo := 0) (n := n.toNat) (Pv D) (h0 D _ hD (Keep.new hD) upd_same) (fun i H' hi p => by
    have e0 : (0 : Int) + (i : Int) = (i : Int) := Int.zero_add _
    rw [e0]
    exact hs D i H' hD (by omega) p) (fun H' p => hd D H' hD p)⟩
theorem lcR2 {lo n : Int} (hb : -(2 ^ 62) ≤ lo ∧ lo < 2 ^ 62 ∧ -(2 ^ 62) ≤ n ∧ n < 2 ^ 62) (Pv : Addr → Nat → Hp → Prop) (h0 : ∀ D H1, H D = none → Keep [] H H1 → H1 D = some (.lst []) → Pv D 0 H1)
    (hs : ∀ D (i : Nat) H', H D = none → lo + (i : Int) < n → Pv D i H' → g (.int (lo + (i : Int))) (wipe σ vs) H' fun σ2 H2 => wipe σ2 vs = wipe σ vs ∧ tt σ2 H2 fun b H3 => if b = true then te σ2 H3 fun y H4 => rApp D y H4 (Pv D (i + 1)) else Pv D (i + 1) H3)
    (hd : ∀ D H', H D = none → Pv D (n - lo).toNat H' → Q (.ref D) H') : kLcR2 g tt te vs σ [.int lo, .int n] H Q :=
  ⟨lo, n, rfl, hb, fun D hD => lc_range (lo := lo) (n := (n - lo).toNat) (Pv D) (h0 D _ hD (Keep.new hD) upd_same) (fun i H' hi p => hs D i H' hD (by omega) p) (fun H' p => hd D H' hD p)⟩
theorem t_yes {P : Bool → Hp → Prop} (h : P true H) : tYes σ H P := h
theorem w_rApp {p : Addr} {y : V} {acc : List V} {R : Hp → Prop} (h : H p = some (.lst acc)) (z : acc.length < sizeLine) (q : ∀ H1, Keep [p] H H1 → H1 p = some (.lst (acc ++ [y])) → R H1) : rApp p y H R := ⟨acc, h, z, q _ (put_lst h) upd_same⟩
theorem w_tup {n : Nat} {t : TGs} {P : L2.St → Hp → Prop} (h : SqT K H a xs) (e : xs.length = n) (q : t xs σ H P) : gTup K n t (.ref a) σ H P := ⟨a, xs, rfl, h, e, q⟩
theorem w_gcons {t : TG} {u : TGs} {v : V} {r : List V} {P : L2.St → Hp → Prop} (q : t v σ H fun σ' H' => u r σ' H' P) : gCons t u (v :: r) σ H P := ⟨v, r, rfl, q⟩
theorem w_gnil {P : L2.St → Hp → Prop} (q : P σ H) : gNil [] σ H P := ⟨rfl, q⟩
def rPar (i j : Nat) (vs : List V) (σ : L2.St) (H : Hp) (P : L2.St → Hp → Prop) : Prop := ∃ v w, vs = [v, w] ∧ P ((σ.set i (some v)).set j (some w)) H
theorem s_par {i j : Nat} (h : ta σ H fun vs H1 => rPar i j vs σ H1 nx) : tPar i j ta ⟨nx, rt, bk, ct⟩ σ H := h
theorem w_par {i j : Nat} {v w : V} {P : L2.St → Hp → Prop} (h : P ((σ.set i (some v)).set j (some w)) H) : rPar i j [v, w] σ H P := ⟨v, w, rfl, h⟩
end

/-! ### pairs of a heap and data -/
/-- each value is a tuple that stands at H -/
def Tups {α : Type} (f : α → List V) (H : Hp) (vs : List V) (xs : List α) : Prop := Paired (fun v x => ∃ t, v = V.ref t ∧ H t = some (.tup (f x))) vs xs
section
variable {α β : Type} {f : α → List V} {H H' : Hp} {vs ws : List V} {xs ys : List α}
theorem Tups.mono (h : Tups f H vs xs) (k : ∀ b zs, H b = some (.tup zs) → H' b = some (.tup zs)) : Tups f H' vs xs := Paired.mapP h fun _ _ ⟨t, e, q⟩ => ⟨t, e, k _ _ q⟩
theorem Tups.keep {S : List Addr} (h : Tups f H vs xs) (k : Keep S H H') : Tups f H' vs xs := h.mono k.2
theorem Tups.nil : Tups f H [] [] := Paired.nil
theorem Tups.len (h : Tups f H vs xs) : vs.length = xs.length := Paired.length h
theorem Tups.snoc {t : Addr} {x : α} (h : Tups f H vs xs) (q : H t = some (.tup (f x))) : Tups f H (vs ++ [.ref t]) (xs ++ [x]) := Paired.snoc h ⟨t, rfl, q⟩
end
section
variable {α β : Type} {F : α → β → Prop}
theorem pd_append : ∀ {vs ws : List α} {xs ys : List β}, Paired F vs xs → Paired F ws ys → Paired F (vs ++ ws) (xs ++ ys)
  | _, _, _, _, .nil, h => h
  | _, _, _, _, .cons a r, h => .cons a (pd_append r h)
theorem pd_take : ∀ {vs : List α} {xs : List β} (n : Nat), Paired F vs xs → Paired F (vs.take n) (xs.take n)
  | _, _, 0, _ => .nil
  | _, _, _ + 1, .nil => .nil
  | _, _, n + 1, .cons a r => .cons a (pd_take n r)
theorem pd_drop : ∀ {vs : List α} {xs : List β} (n : Nat), Paired F vs xs → Paired F (vs.drop n) (xs.drop n)
  | _, _, 0, h => h
  | _, _, _ + 1, .nil => .nil
  | _, _, n + 1, .cons _ r => pd_drop n r
theorem pd_get : ∀ {vs : List α} {xs : List β} {i : Nat} {v : α}, Paired F vs xs → vs[i]? = some v → ∃ x, xs[i]? = some x ∧ F v x
  | _, _, _, _, .nil, e => by simp at e
  | _, _, 0, _, .cons h _, e => by
    simp at e; subst e
    exact ⟨_, rfl, h⟩
  | _, _, i + 1, v, .cons _ r, e => by
    obtain ⟨x, e1, e2⟩ := pd_get (i := i) (v := v) r (by simpa using e)
    exact ⟨x, by simpa using e1, e2⟩
theorem pd_get' : ∀ {vs : List α} {xs : List β} {i : Nat} {x : β}, Paired F vs xs → xs[i]? = some x → ∃ v, vs[i]? = some v ∧ F v x
  | _, _, _, _, .nil, e => by simp at e
  | _, _, 0, _, .cons h _, e => by
    simp at e; subst e
    exact ⟨_, rfl, h⟩
  | _, _, i + 1, x, .cons _ r, e => by
    obtain ⟨v, e1, e2⟩ := pd_get' (i := i) (x := x) r (by simpa using e)
    exact ⟨v, by simpa using e1, e2⟩
end
section
variable {α β : Type} {f : α → List V} {H H' : Hp} {vs ws : List V} {xs ys : List α}
theorem Tups.append (h : Tups f H vs xs) (k : Tups f H ws ys) : Tups f H (vs ++ ws) (xs ++ ys) := pd_append h k
theorem Tups.take (n : Nat) (h : Tups f H vs xs) : Tups f H (vs.take n) (xs.take n) := pd_take n h
theorem Tups.drop (n : Nat) (h : Tups f H vs xs) : Tups f H (vs.drop n) (xs.drop n) := pd_drop n h
theorem Tups.get {i : Nat} {v : V} (h : Tups f H vs xs) (e : vs[i]? = some v) : ∃ t x, v = .ref t ∧ xs[i]? = some x ∧ H t = some (.tup (f x)) := by
  obtain ⟨x, e1, t, e2, e3⟩ := pd_get h e
  exact ⟨t, x, e2, e1, e3⟩
end

/-! ### ifs -/
theorem ite_dec {p A B : Prop} [Decidable p] (h1 : p → A) (h2 : ¬ p → B) : if decide p = true then A else B := by
  by_cases h : p
  · rw [if_pos (decide_eq_true h)]; exact h1 h
  · rw [if_neg (by rw [decide_eq_false h]; exact Bool.false_ne_true)]; exact h2 h
theorem ite_ndec {p A B : Prop} [Decidable p] (h1 : ¬ p → A) (h2 : p → B) : if (!decide p) = true then A else B := by
  by_cases h : p
  · rw [decide_eq_true h]; exact h2 h
  · rw [decide_eq_false h]; exact h1 h
theorem ite_T {A B : Prop} (h : A) : if true = true then A else B := h
theorem ite_F {A B : Prop} (h : B) : if false = true then A else B := h
theorem ite_nT {A B : Prop} (h : B) : if (!true) = true then A else B := h
theorem ite_nF {A B : Prop} (h : A) : if (!false) = true then A else B := h
theorem ite_self {α : Type} [DecidableEq α] {x : α} {A B : Prop} (h : A) : if decide (x = x) = true then A else B := by rw [decide_eq_true rfl]; exact h
theorem ite_nself {α : Type} [DecidableEq α] {x : α} {A B : Prop} (h : B) : if (!decide (x = x)) = true then A else B := by rw [decide_eq_true rfl]; exact h
theorem ite_tf {A B : Prop} (h : B) : if decide (true = false) = true then A else B := h
theorem ite_ft {A B : Prop} (h : B) : if decide (false = true) = true then A else B := h
theorem ite_ntf {A B : Prop} (h : A) : if (!decide (true = false)) = true then A else B := h
theorem ite_nft {A B : Prop} (h : A) : if (!decide (false = true)) = true then A else B := h
theorem q_self {α : Type} [DecidableEq α] {x : α} {Q : VK} {H : Hp} (h : Q (.bl true) H) : Q (.bl (decide (x = x))) H := by rw [decide_eq_true rfl]; exact h
theorem ite_P {p A B : Prop} [Decidable p] (c : p) (h : A) : if decide p = true then A else B := by rw [if_pos (decide_eq_true c)]; exact h
theorem ite_N {p A B : Prop} [Decidable p] (c : ¬ p) (h : B) : if decide p = true then A else B := by rw [decide_eq_false c]; exact h
end W

set_option maxHeartbeats 4000000
/-! W2: data as a whole; isinstance -/
namespace W
open PySem PySem.Spec L2
mutual
def Da (H : Hp) : PyData → V → Prop
  | .none, v => v = .non
  | .bool b, v => v = .bl b
  | .int i, v => v = .int i
  | .str s, v => v = .str s
  | .list ds, v => ∃ a xs, v = .ref a ∧ H a = some (.lst xs) ∧ DaL H ds xs
  | .tuple ds, v => ∃ a xs, v = .ref a ∧ H a = some (.tup xs) ∧ DaL H ds xs
  | .dict _, _ => False
def DaL (H : Hp) : List PyData → List V → Prop
  | [], xs => xs = []
  | d :: ds, xs => ∃ v r, xs = v :: r ∧ Da H d v ∧ DaL H ds r
end
mutual
/-- how deep -/
def dep : PyData → Nat
  | .list ds => depL ds + 1
  | .tuple ds => depL ds + 1
  | _ => 0
def depL : List PyData → Nat
  | [] => 0
  | d :: ds => max (dep d) (depL ds)
end
mutual
/-- how wide -/
def wid : PyData → Nat
  | .list ds => max ds.length (widL ds)
  | .tuple ds => max ds.length (widL ds)
  | _ => 0
def widL : List PyData → Nat
  | [] => 0
  | d :: ds => max (wid d) (widL ds)
end
mutual
theorem Da.mono {H H' : Hp} (k : Same H H') : ∀ (d : PyData) (v : V), Da H d v → Da H' d v
  | .none, _, h => by simpa [Da] using h
  | .bool _, _, h => by simpa [Da] using h
  | .int _, _, h => by simpa [Da] using h
  | .str _, _, h => by simpa [Da] using h
  | .list ds, _, h => by
    simp only [Da] at h ⊢
    obtain ⟨a, xs, e, h1, h2⟩ := h
    exact ⟨a, xs, e, k _ _ h1, DaL.mono k ds xs h2⟩
  | .tuple ds, _, h => by
    simp only [Da] at h ⊢
    obtain ⟨a, xs, e, h1, h2⟩ := h
    exact ⟨a, xs, e, k _ _ h1, DaL.mono k ds xs h2⟩
  | .dict _, _, h => by simp [Da] at h
theorem DaL.mono {H H' : Hp} (k : Same H H') : ∀ (ds : List PyData) (xs : List V), DaL H ds xs → DaL H' ds xs
  | [], _, h => by simpa [DaL] using h
  | d :: ds, _, h => by
    simp only [DaL] at h ⊢
    obtain ⟨v, r, e, h1, h2⟩ := h
    exact ⟨v, r, e, Da.mono k d v h1, DaL.mono k ds r h2⟩
end
theorem DaL.len {H : Hp} : ∀ {ds : List PyData} {xs : List V}, DaL H ds xs → xs.length = ds.length
  | [], _, h => by simp only [DaL] at h; subst h; rfl
  | d :: ds, _, h => by
    simp only [DaL] at h
    obtain ⟨v, r, rfl, _, h2⟩ := h
    simp [DaL.len h2]
theorem DaL.get {H : Hp} : ∀ {ds : List PyData} {xs : List V} {i : Nat} {v : V}, DaL H ds xs → xs[i]? = some v → ∃ d, ds[i]? = some d ∧ Da H d v
  | [], _, i, v, h, e => by simp only [DaL] at h; subst h; simp at e
  | d :: ds, _, 0, v, h, e => by
    simp only [DaL] at h
    obtain ⟨u, r, rfl, h1, _⟩ := h
    simp at e; subst e
    exact ⟨d, rfl, h1⟩
  | d :: ds, _, i + 1, v, h, e => by
    simp only [DaL] at h
    obtain ⟨u, r, rfl, _, h2⟩ := h
    obtain ⟨x, e1, e2⟩ := DaL.get (i := i) (v := v) h2 (by simpa using e)
    exact ⟨x, by simpa using e1, e2⟩
theorem DaL.append {H : Hp} : ∀ {ds es : List PyData} {xs ys : List V}, DaL H ds xs → DaL H es ys → DaL H (ds ++ es) (xs ++ ys)
  | [], _, _, _, h, k => by simp only [DaL] at h; subst h; exact k
  | d :: ds, _, _, _, h, k => by
    simp only [DaL] at h
    obtain ⟨u, r, rfl, h1, h2⟩ := h
    show DaL H (d :: (ds ++ _)) (u :: (r ++ _))
    simp only [DaL]
    exact ⟨u, _, rfl, h1, DaL.append h2 k⟩
theorem DaL.snoc {H : Hp} {ds : List PyData} {xs : List V} {d : PyData} {v : V} (h : DaL H ds xs) (k : Da H d v) : DaL H (ds ++ [d]) (xs ++ [v]) :=
  h.append (by simp only [DaL]; exact ⟨v, [], rfl, k, rfl⟩)
theorem DaL.one {H : Hp} {d : PyData} {v : V} (k : Da H d v) : DaL H [d] [v] := by simp only [DaL]; exact ⟨v, [], rfl, k, rfl⟩
theorem DaL.cons {H : Hp} {ds : List PyData} {xs : List V} {d : PyData} {v : V} (k : Da H d v) (h : DaL H ds xs) : DaL H (d :: ds) (v :: xs) := by simp only [DaL]; exact ⟨v, xs, rfl, k, h⟩
theorem DaL.nil {H : Hp} : DaL H [] [] := by simp only [DaL]
theorem DaL.ints {H : Hp} : ∀ ns : List Int, DaL H (ns.map PyData.int) (ns.map V.int)
  | [] => DaL.nil
  | n :: r => DaL.cons (by simp only [Da]) (DaL.ints r)
theorem DaL.bools {H : Hp} : ∀ ns : List Bool, DaL H (ns.map PyData.bool) (ns.map V.bl)
  | [] => DaL.nil
  | n :: r => DaL.cons (by simp only [Da]) (DaL.bools r)
theorem Da.int {H : Hp} {i : Int} : Da H (.int i) (.int i) := by simp only [Da]
theorem Da.bl {H : Hp} {i : Bool} : Da H (.bool i) (.bl i) := by simp only [Da]
theorem Da.str {H : Hp} {i : Str} : Da H (.str i) (.str i) := by simp only [Da]
theorem Da.non {H : Hp} : Da H .none .non := by simp only [Da]
theorem Da.lst {H : Hp} {a : Addr} {xs : List V} {ds : List PyData} (h : H a = some (.lst xs)) (k : DaL H ds xs) : Da H (.list ds) (.ref a) := by simp only [Da]; exact ⟨a, xs, rfl, h, k⟩
theorem Da.tup {H : Hp} {a : Addr} {xs : List V} {ds : List PyData} (h : H a = some (.tup xs)) (k : DaL H ds xs) : Da H (.tuple ds) (.ref a) := by simp only [Da]; exact ⟨a, xs, rfl, h, k⟩
theorem depL_get : ∀ {ds : List PyData} {i : Nat} {d : PyData}, ds[i]? = some d → dep d ≤ depL ds
  | [], _, _, e => by simp at e
  | x :: r, 0, d, e => by simp at e; subst e; simp only [depL]; omega
  | x :: r, i + 1, d, e => by
    have h := depL_get (ds := r) (i := i) (d := d) (by simpa using e)
    simp only [depL]; omega
theorem widL_get : ∀ {ds : List PyData} {i : Nat} {d : PyData}, ds[i]? = some d → wid d ≤ widL ds
  | [], _, _, e => by simp at e
  | x :: r, 0, d, e => by simp at e; subst e; simp only [widL]; omega
  | x :: r, i + 1, d, e => by
    have h := widL_get (ds := r) (i := i) (d := d) (by simpa using e)
    simp only [widL]; omega
theorem widL_ints : ∀ ns : List Int, widL (ns.map PyData.int) = 0
  | [] => rfl
  | n :: r => by show max (wid (.int n)) (widL (r.map PyData.int)) = 0; rw [widL_ints r]; rfl
theorem depL_ints : ∀ ns : List Int, depL (ns.map PyData.int) = 0
  | [] => rfl
  | n :: r => by show max (dep (.int n)) (depL (r.map PyData.int)) = 0; rw [depL_ints r]; rfl
mutual
theorem Da.dp {K : PySem.W.Frag} {H : Hp} : ∀ (d : PyData) (v : V), Da H d v → Dp K H v d
  | .none, _, h => by simp only [Da] at h; subst h; exact .non
  | .bool b, _, h => by simp only [Da] at h; subst h; exact .bl b
  | .int i, _, h => by simp only [Da] at h; subst h; exact .int i
  | .str s, _, h => by simp only [Da] at h; subst h; exact .str s
  | .list ds, _, h => by
    simp only [Da] at h
    obtain ⟨a, xs, rfl, h1, h2⟩ := h
    exact .lst (SqL.of h1) (DaL.dp ds xs h2)
  | .tuple ds, _, h => by
    simp only [Da] at h
    obtain ⟨a, xs, rfl, h1, h2⟩ := h
    exact .tup (SqT.of h1) (DaL.dp ds xs h2)
  | .dict _, _, h => by simp [Da] at h
theorem DaL.dp {K : PySem.W.Frag} {H : Hp} : ∀ (ds : List PyData) (xs : List V), DaL H ds xs → DpAll K H xs ds
  | [], _, h => by simp only [DaL] at h; subst h; exact .nil
  | d :: ds, _, h => by
    simp only [DaL] at h
    obtain ⟨v, r, rfl, h1, h2⟩ := h
    exact .cons (Da.dp d v h1) (DaL.dp ds r h2)
end
/-! isinstance -/
def tyName : PyData → String
  | .none => "NoneType" | .bool _ => "bool" | .int _ => "int" | .str _ => "str" | .list _ => "list" | .tuple _ => "tuple" | .dict _ => "dict"
theorem Da.ty {K : PySem.W.Frag} {H : Hp} {d : PyData} {v : V} (h : Da H d v) : TyX K H v (.type (tyName d)) := by
  cases d with
  | none => simp only [Da] at h; subst h; exact .base .non
  | bool b => simp only [Da] at h; subst h; exact .base (.bl b)
  | int i => simp only [Da] at h; subst h; exact .base (.int i)
  | str s => simp only [Da] at h; subst h; exact .base (.str s)
  | list ds =>
    simp only [Da] at h
    obtain ⟨a, xs, rfl, h1, h2⟩ := h
    exact .base (.lst h1)
  | tuple ds =>
    simp only [Da] at h
    obtain ⟨a, xs, rfl, h1, h2⟩ := h
    exact .base (.tup h1)
  | dict ds => simp [Da] at h
theorem w_isi {K : PySem.W.Frag} {H : Hp} {Q : VK} {x : V} {T n : String} {b : Bool} (ty : TyX K H x (.type T)) (h : kitB T n = some b) (q : Q (.bl b) H) : rIsi K [x, .ty n] H Q := ⟨x, .ty n, .type T, .type n, b, rfl, .ty n, ty, kit_ty h, q⟩
theorem w_isiT2 {K : PySem.W.Frag} {H : Hp} {Q : VK} {x : V} {T n m : String} {tp : Addr} {b c : Bool} (ty : TyX K H x (.type T)) (ht : H tp = some (.tup [.ty n, .ty m])) (h : kitB T n = some b) (h2 : kitB T m = some c) (q : Q (.bl (b || c)) H) : rIsiT K [x, .ref tp] H Q :=
  ⟨x, tp, _, .type T, [.type n, .type m], b || c, rfl, ht, .cons (.ty n) (.cons (.ty m) .nil), ty, kitAny_cons (kit_ty h) (fun hb => by
    subst hb
    exact kitAny_cons (kit_ty h2) (fun hc => by subst hc; exact kitAny_nil) (fun hc => by subst hc; rfl)) (fun hb => by subst hb; rfl), q⟩
section
variable {K : PySem.W.Frag} {H : Hp} {Q : VK} {x : V} {T n m : String} {tp : Addr}
theorem w_isi1 (ty : TyX K H x (.type T)) (h : kitB T n = some true) (q : Q (.bl true) H) : rIsi K [x, .ty n] H Q := w_isi ty h q
theorem w_isi0 (ty : TyX K H x (.type T)) (h : kitB T n = some false) (q : Q (.bl false) H) : rIsi K [x, .ty n] H Q := w_isi ty h q
theorem w_isiT10 (ty : TyX K H x (.type T)) (ht : H tp = some (.tup [.ty n, .ty m])) (h : kitB T n = some true) (h2 : kitB T m = some false) (q : Q (.bl true) H) : rIsiT K [x, .ref tp] H Q := w_isiT2 ty ht h h2 q
theorem w_isiT01 (ty : TyX K H x (.type T)) (ht : H tp = some (.tup [.ty n, .ty m])) (h : kitB T n = some false) (h2 : kitB T m = some true) (q : Q (.bl true) H) : rIsiT K [x, .ref tp] H Q := w_isiT2 ty ht h h2 q
theorem w_isiT00 (ty : TyX K H x (.type T)) (ht : H tp = some (.tup [.ty n, .ty m])) (h : kitB T n = some false) (h2 : kitB T m = some false) (q : Q (.bl false) H) : rIsiT K [x, .ref tp] H Q := w_isiT2 ty ht h h2 q
end
/-! == of data that are the same -/
mutual
theorem canLay_ints : ∀ ns : List Int, PyData.canLayAll0 (ns.map PyData.int) = true
  | [] => rfl
  | n :: r => by show (PyData.canLay0 (.int n) && PyData.canLayAll0 (r.map PyData.int)) = true; rw [canLay_ints r]; rfl
end
theorem depth_ints : ∀ ns : List Int, PyData.depthAll (ns.map PyData.int) = 0
  | [] => rfl
  | n :: r => by show max (PyData.depth (.int n)) (PyData.depthAll (r.map PyData.int)) = 0; rw [depth_ints r]; rfl
theorem shp_ints (ns : List Int) : SeqAt.shaped (.list (ns.map PyData.int)) = true := by
  show (PyData.canLayAll0 (ns.map PyData.int) && decide (PyData.depthAll (ns.map PyData.int) + 1 ≤ 64)) = true
  rw [canLay_ints, depth_ints]; rfl
theorem w_neD {K : PySem.W.Frag} {H : Hp} {Q : VK} {x y : V} (d : PyData) (hx : Da H d x) (hy : Da H d y) (hs : SeqAt.shaped d = true) (q : Q (.bl false) H) : rNeD K x y H Q :=
  ⟨d, d, hx.dp, hy.dp, hs, hs, by rw [SeqAt.eqv_refl d (SeqAt.canLay_of_shaped hs)]; exact q⟩
theorem w_eqD {K : PySem.W.Frag} {H : Hp} {Q : VK} {x y : V} (d : PyData) (hx : Da H d x) (hy : Da H d y) (hs : SeqAt.shaped d = true) (q : Q (.bl true) H) : rEqD K x y H Q :=
  ⟨d, d, hx.dp, hy.dp, hs, hs, by rw [SeqAt.eqv_refl d (SeqAt.canLay_of_shaped hs)]; exact q⟩
/-! insert; a list unpacked -/
def rInsL : V → List V → Hp → VK → Prop := fun x vs H Q => ∃ (l : Addr) (xs : List V) (i : Int) (y : V), x = .ref l ∧ vs = [.int i, y] ∧ H l = some (.lst xs) ∧ xs.length < sizeLine ∧ 0 ≤ i ∧ i < 2 ^ 63 ∧
    Q .non (upd H l (.lst (xs.take i.toNat ++ [y] ++ xs.drop i.toNat)))
theorem mt_insertL {X : Cx} : MtR X "list.insert" rInsL := mt_insert
theorem w_ins {H : Hp} {Q : VK} {l : Addr} {xs : List V} {i : Int} {y : V} (h : H l = some (.lst xs)) (z : xs.length < sizeLine) (h0 : 0 ≤ i ∧ i < 2 ^ 63) (q : ∀ H1, Keep [l] H H1 → H1 l = some (.lst (xs.take i.toNat ++ [y] ++ xs.drop i.toNat)) → Q .non H1) :
    rInsL (.ref l) [.int i, y] H Q := ⟨l, xs, i, y, rfl, rfl, h, z, h0.1, h0.2, q _ (put_lst h) upd_same⟩
theorem w_unl {K : PySem.W.Frag} {σ : L2.St} {H : Hp} {a : Addr} {xs : List V} {n : Nat} {t : TGs} {P : L2.St → Hp → Prop} (h : SqL K H a xs) (e : xs.length = n) (q : t xs σ H P) : gUnl K n t (.ref a) σ H P := ⟨a, xs, rfl, h, e, q⟩
end W

set_option maxHeartbeats 4000000
namespace My
open PySem L2 W
def topS (i : Nat) : Stmt := PySem.Challenge.pw_planwhole_k10_files_keep_a_beginning.main.body.getD i (.Pass ⟨0, 0, 0, 0⟩)
abbrev s__applied : Stmt := topS 1
abbrev nm__applied : List Str := ["data", "steps", "result", "name", "number"]
theorem sc__applied : FnScope nm__applied ["data", "steps"] (defScope s__applied) := ⟨rfl, rfl, rfl, by decide +kernel, rfl, by decide +kernel, by decide +kernel⟩
theorem st__applied (v0 v1 : V) : start nm__applied [v0, v1] = [some v0, some v1, none, none, none] := rfl
abbrev s_File___init__ : Stmt := inClass (topS 2) 0
abbrev nm_File___init__ : List Str := ["self"]
theorem sc_File___init__ : FnScope nm_File___init__ ["self"] (defScope s_File___init__) := ⟨rfl, rfl, rfl, by decide +kernel, rfl, by decide +kernel, by decide +kernel⟩
theorem st_File___init__ (v0 : V) : start nm_File___init__ [v0] = [some v0] := rfl
abbrev s_File_write : Stmt := inClass (topS 2) 1
abbrev nm_File_write : List Str := ["self", "data", "steps", "count", "byte"]
theorem sc_File_write : FnScope nm_File_write ["self", "data", "steps"] (defScope s_File_write) := ⟨rfl, rfl, rfl, by decide +kernel, rfl, by decide +kernel, by decide +kernel⟩
theorem st_File_write (v0 v1 v2 : V) : start nm_File_write [v0, v1, v2] = [some v0, some v1, some v2, none, none] := rfl
abbrev s_File_shorten : Stmt := inClass (topS 2) 2
abbrev nm_File_shorten : List Str := ["self", "size", "steps"]
theorem sc_File_shorten : FnScope nm_File_shorten ["self", "size", "steps"] (defScope s_File_shorten) := ⟨rfl, rfl, rfl, by decide +kernel, rfl, by decide +kernel, by decide +kernel⟩
theorem st_File_shorten (v0 v1 v2 : V) : start nm_File_shorten [v0, v1, v2] = [some v0, some v1, some v2] := rfl
abbrev s_File_flush : Stmt := inClass (topS 2) 3
abbrev nm_File_flush : List Str := ["self", "steps"]
theorem sc_File_flush : FnScope nm_File_flush ["self", "steps"] (defScope s_File_flush) := ⟨rfl, rfl, rfl, by decide +kernel, rfl, by decide +kernel, by decide +kernel⟩
theorem st_File_flush (v0 v1 : V) : start nm_File_flush [v0, v1] = [some v0, some v1] := rfl
abbrev s_File_content : Stmt := inClass (topS 2) 4
abbrev nm_File_content : List Str := ["self"]
theorem sc_File_content : FnScope nm_File_content ["self"] (defScope s_File_content) := ⟨rfl, rfl, rfl, by decide +kernel, rfl, by decide +kernel, by decide +kernel⟩
theorem st_File_content (v0 : V) : start nm_File_content [v0] = [some v0] := rfl
abbrev s_File_pending : Stmt := inClass (topS 2) 5
abbrev nm_File_pending : List Str := ["self"]
theorem sc_File_pending : FnScope nm_File_pending ["self"] (defScope s_File_pending) := ⟨rfl, rfl, rfl, by decide +kernel, rfl, by decide +kernel, by decide +kernel⟩
theorem st_File_pending (v0 : V) : start nm_File_pending [v0] = [some v0] := rfl
abbrev s_File_lose : Stmt := inClass (topS 2) 6
abbrev nm_File_lose : List Str := ["self", "steps"]
theorem sc_File_lose : FnScope nm_File_lose ["self", "steps"] (defScope s_File_lose) := ⟨rfl, rfl, rfl, by decide +kernel, rfl, by decide +kernel, by decide +kernel⟩
theorem st_File_lose (v0 v1 : V) : start nm_File_lose [v0, v1] = [some v0, some v1] := rfl
abbrev s__law_mix : Stmt := topS 4
abbrev nm__law_mix : List Str := ["cell", "k", "value"]
theorem sc__law_mix : FnScope nm__law_mix ["cell", "k"] (defScope s__law_mix) := ⟨rfl, rfl, rfl, by decide +kernel, rfl, by decide +kernel, by decide +kernel⟩
theorem st__law_mix (v0 v1 : V) : start nm__law_mix [v0, v1] = [some v0, some v1, none] := rfl
abbrev s__law_draws : Stmt := topS 5
abbrev nm__law_draws : List Str := ["script", "draws", "k", "cell", "place"]
theorem sc__law_draws : FnScope nm__law_draws ["script"] (defScope s__law_draws) := ⟨rfl, rfl, rfl, by decide +kernel, rfl, by decide +kernel, by decide +kernel⟩
theorem st__law_draws (v0 : V) : start nm__law_draws [v0] = [some v0, none, none, none, none] := rfl
abbrev s__law_at : Stmt := topS 6
abbrev nm__law_at : List Str := ["draws", "index"]
theorem sc__law_at : FnScope nm__law_at ["draws", "index"] (defScope s__law_at) := ⟨rfl, rfl, rfl, by decide +kernel, rfl, by decide +kernel, by decide +kernel⟩
theorem st__law_at (v0 v1 : V) : start nm__law_at [v0, v1] = [some v0, some v1] := rfl
abbrev s__law_is_integer : Stmt := topS 7
abbrev nm__law_is_integer : List Str := ["actual"]
theorem sc__law_is_integer : FnScope nm__law_is_integer ["actual"] (defScope s__law_is_integer) := ⟨rfl, rfl, rfl, by decide +kernel, rfl, by decide +kernel, by decide +kernel⟩
theorem st__law_is_integer (v0 : V) : start nm__law_is_integer [v0] = [some v0] := rfl
abbrev s__law_same : Stmt := topS 8
abbrev nm__law_same : List Str := ["actual", "expected", "k"]
theorem sc__law_same : FnScope nm__law_same ["actual", "expected"] (defScope s__law_same) := ⟨rfl, rfl, rfl, by decide +kernel, rfl, by decide +kernel, by decide +kernel⟩
theorem st__law_same (v0 v1 : V) : start nm__law_same [v0, v1] = [some v0, some v1, none] := rfl
abbrev s__law_next : Stmt := topS 9
abbrev nm__law_next : List Str := ["state", "limit"]
theorem sc__law_next : FnScope nm__law_next ["state", "limit"] (defScope s__law_next) := ⟨rfl, rfl, rfl, by decide +kernel, rfl, by decide +kernel, by decide +kernel⟩
theorem st__law_next (v0 v1 : V) : start nm__law_next [v0, v1] = [some v0, some v1] := rfl
abbrev s__law_after : Stmt := topS 10
abbrev nm__law_after : List Str := ["data", "steps", "kind", "number"]
theorem sc__law_after : FnScope nm__law_after ["data", "steps"] (defScope s__law_after) := ⟨rfl, rfl, rfl, by decide +kernel, rfl, by decide +kernel, by decide +kernel⟩
theorem st__law_after (v0 v1 : V) : start nm__law_after [v0, v1] = [some v0, some v1, none, none] := rfl
abbrev s__law_deed : Stmt := topS 11
abbrev nm__law_deed : List Str := ["state", "file", "lasting", "steps", "pick", "limit", "data", "k", "count", "passed", "done", "byte", "size"]
theorem sc__law_deed : FnScope nm__law_deed ["state", "file", "lasting", "steps"] (defScope s__law_deed) := ⟨rfl, rfl, rfl, by decide +kernel, rfl, by decide +kernel, by decide +kernel⟩
theorem st__law_deed (v0 v1 v2 v3 : V) : start nm__law_deed [v0, v1, v2, v3] = [some v0, some v1, some v2, some v3, none, none, none, none, none, none, none, none, none] := rfl
abbrev s_law : Stmt := topS 12
abbrev nm_law : List Str := ["script", "state", "file", "lasting", "steps", "other", "still", "k", "right"]
theorem sc_law : FnScope nm_law ["script"] (defScope s_law) := ⟨rfl, rfl, rfl, by decide +kernel, rfl, by decide +kernel, by decide +kernel⟩
theorem st_law (v0 : V) : start nm_law [v0] = [some v0, none, none, none, none, none, none, none, none] := rfl
structure Adr where
  f__applied : Addr
  d__applied : FuncData
  f_File___init__ : Addr
  d_File___init__ : FuncData
  f_File_write : Addr
  d_File_write : FuncData
  f_File_shorten : Addr
  d_File_shorten : FuncData
  f_File_flush : Addr
  d_File_flush : FuncData
  f_File_content : Addr
  d_File_content : FuncData
  f_File_pending : Addr
  d_File_pending : FuncData
  f_File_lose : Addr
  d_File_lose : FuncData
  f__law_mix : Addr
  d__law_mix : FuncData
  f__law_draws : Addr
  d__law_draws : FuncData
  f__law_at : Addr
  d__law_at : FuncData
  f__law_is_integer : Addr
  d__law_is_integer : FuncData
  f__law_same : Addr
  d__law_same : FuncData
  f__law_next : Addr
  d__law_next : FuncData
  f__law_after : Addr
  d__law_after : FuncData
  f__law_deed : Addr
  d__law_deed : FuncData
  f_law : Addr
  d_law : FuncData
  C_File : Addr
structure Env (K : PySem.W.Frag) (mg : Str → Option Value) (A : Adr) : Prop where
  F__applied : Fun K "_applied" "_applied" s__applied A.f__applied A.d__applied
  b__applied : Binds K A.d__applied ["data", "steps"] []
  m__applied : mg "_applied" = some (.ref A.f__applied)
  k__applied : PySem.W.keepIn K (.ref A.f__applied) = true
  F_File___init__ : Fun K "__init__" "File.__init__" s_File___init__ A.f_File___init__ A.d_File___init__
  b_File___init__ : Binds K A.d_File___init__ ["self"] []
  h_File___init__ : Meth K A.C_File "__init__" A.f_File___init__
  F_File_write : Fun K "write" "File.write" s_File_write A.f_File_write A.d_File_write
  b_File_write : Binds K A.d_File_write ["self", "data", "steps"] []
  h_File_write : Meth K A.C_File "write" A.f_File_write
  F_File_shorten : Fun K "shorten" "File.shorten" s_File_shorten A.f_File_shorten A.d_File_shorten
  b_File_shorten : Binds K A.d_File_shorten ["self", "size", "steps"] []
  h_File_shorten : Meth K A.C_File "shorten" A.f_File_shorten
  F_File_flush : Fun K "flush" "File.flush" s_File_flush A.f_File_flush A.d_File_flush
  b_File_flush : Binds K A.d_File_flush ["self", "steps"] []
  h_File_flush : Meth K A.C_File "flush" A.f_File_flush
  F_File_content : Fun K "content" "File.content" s_File_content A.f_File_content A.d_File_content
  b_File_content : Binds K A.d_File_content ["self"] []
  h_File_content : Meth K A.C_File "content" A.f_File_content
  F_File_pending : Fun K "pending" "File.pending" s_File_pending A.f_File_pending A.d_File_pending
  b_File_pending : Binds K A.d_File_pending ["self"] []
  h_File_pending : Meth K A.C_File "pending" A.f_File_pending
  F_File_lose : Fun K "lose" "File.lose" s_File_lose A.f_File_lose A.d_File_lose
  b_File_lose : Binds K A.d_File_lose ["self", "steps"] []
  h_File_lose : Meth K A.C_File "lose" A.f_File_lose
  F__law_mix : Fun K "_law_mix" "_law_mix" s__law_mix A.f__law_mix A.d__law_mix
  b__law_mix : Binds K A.d__law_mix ["cell", "k"] []
  m__law_mix : mg "_law_mix" = some (.ref A.f__law_mix)
  k__law_mix : PySem.W.keepIn K (.ref A.f__law_mix) = true
  F__law_draws : Fun K "_law_draws" "_law_draws" s__law_draws A.f__law_draws A.d__law_draws
  b__law_draws : Binds K A.d__law_draws ["script"] []
  m__law_draws : mg "_law_draws" = some (.ref A.f__law_draws)
  k__law_draws : PySem.W.keepIn K (.ref A.f__law_draws) = true
  F__law_at : Fun K "_law_at" "_law_at" s__law_at A.f__law_at A.d__law_at
  b__law_at : Binds K A.d__law_at ["draws", "index"] []
  m__law_at : mg "_law_at" = some (.ref A.f__law_at)
  k__law_at : PySem.W.keepIn K (.ref A.f__law_at) = true
  F__law_is_integer : Fun K "_law_is_integer" "_law_is_integer" s__law_is_integer A.f__law_is_integer A.d__law_is_integer
  b__law_is_integer : Binds K A.d__law_is_integer ["actual"] []
  m__law_is_integer : mg "_law_is_integer" = some (.ref A.f__law_is_integer)
  k__law_is_integer : PySem.W.keepIn K (.ref A.f__law_is_integer) = true
  F__law_same : Fun K "_law_same" "_law_same" s__law_same A.f__law_same A.d__law_same
  b__law_same : Binds K A.d__law_same ["actual", "expected"] []
  m__law_same : mg "_law_same" = some (.ref A.f__law_same)
  k__law_same : PySem.W.keepIn K (.ref A.f__law_same) = true
  F__law_next : Fun K "_law_next" "_law_next" s__law_next A.f__law_next A.d__law_next
  b__law_next : Binds K A.d__law_next ["state", "limit"] []
  m__law_next : mg "_law_next" = some (.ref A.f__law_next)
  k__law_next : PySem.W.keepIn K (.ref A.f__law_next) = true
  F__law_after : Fun K "_law_after" "_law_after" s__law_after A.f__law_after A.d__law_after
  b__law_after : Binds K A.d__law_after ["data", "steps"] []
  m__law_after : mg "_law_after" = some (.ref A.f__law_after)
  k__law_after : PySem.W.keepIn K (.ref A.f__law_after) = true
  F__law_deed : Fun K "_law_deed" "_law_deed" s__law_deed A.f__law_deed A.d__law_deed
  b__law_deed : Binds K A.d__law_deed ["state", "file", "lasting", "steps"] []
  m__law_deed : mg "_law_deed" = some (.ref A.f__law_deed)
  k__law_deed : PySem.W.keepIn K (.ref A.f__law_deed) = true
  F_law : Fun K "law" "law" s_law A.f_law A.d_law
  b_law : Binds K A.d_law ["script"] []
  m_law : mg "law" = some (.ref A.f_law)
  k_law : PySem.W.keepIn K (.ref A.f_law) = true
  m_File : mg "File" = some (.ref A.C_File)
  c_File : Cls K A.C_File
  M_File : Mk K A.C_File A.f_File___init__
  x_File__lasting : NoAttr K A.C_File "_lasting"
  x_File__steps : NoAttr K A.C_File "_steps"
  n_bool : mg "bool" = none
  n_int : mg "int" = none
  n_isinstance : mg "isinstance" = none
  n_len : mg "len" = none
  n_list : mg "list" = none
  n_min : mg "min" = none
  n_range : mg "range" = none
  n_str : mg "str" = none
  n_tuple : mg "tuple" = none
end My

set_option maxHeartbeats 4000000
local macro_rules | `(tactic| walk_at "k") => `(tactic| first
  | assumption
  | exact W.Keep.trans (by assumption) (by assumption)
  | exact And.intro (by grind [W.Keep, W.Kp]) (by grind [W.Keep, W.Kt])
  | grind [W.Keep, W.Kp])
local macro_rules | `(tactic| walk_at "f") => `(tactic| first
  | assumption
  | exact L2.SqL.of (by assumption)
  | exact L2.SqT.of (by assumption)
  | exact L2.SqL.of L2.upd_same
  | exact L2.SqT.of L2.upd_same
  | exact L2.upd_same
  | exact W.carryL (by assumption) (by assumption)
  | exact W.carryL (by assumption) (by walk_at "k")
  | exact W.carryT (by assumption) (by walk_at "k")
  | exact W.carry (by assumption) (by grind [W.Keep, W.Kp])
  | exact L2.SqL.of (W.carry (by assumption) (by grind [W.Keep, W.Kp]))
  | exact L2.SqT.of (W.carry (by assumption) (by grind [W.Keep, W.Kp])))
local macro_rules | `(tactic| walk_at "a") => `(tactic| first
  | assumption
  | rfl)
local macro_rules | `(tactic| walk_at "n") => `(tactic| first
  | assumption
  | exact Nat.zero_le _
  | decide
  | (simp only [List.length_cons, List.length_nil]; decide)
  | omega
  | (simp only [PySem.sizeLine_eq]; omega)
  | (simp only [List.length_map, List.length_append, List.length_cons, List.length_nil, PySem.sizeLine_eq]; omega)
  | (simp only [List.length_map, List.length_append, List.length_cons, List.length_nil, List.length_take, List.length_drop, PySem.sizeLine_eq]; omega)
  | (simp only [List.length_map, List.length_append, List.length_cons, List.length_nil, PySem.sizeLine_eq] at *; omega))
local macro_rules | `(tactic| walk_at "c") => `(tactic| first
  | assumption
  | decide
  | exact And.intro (by decide) (by decide)
  | exact Or.inr (And.intro (by decide) (by decide))
  | exact Or.inl (And.intro (by decide) (by decide))
  | exact And.intro (by decide) (And.intro (by decide) (by decide))
  | exact (show (0 : Int) < _ by decide)
  | exact And.intro (by omega) (by omega)
  | exact Or.inl (And.intro (by omega) (by omega))
  | exact Or.inr (And.intro (by omega) (by omega))
  | exact (show (0 : Int) < _ by omega))
local macro_rules | `(tactic| walk_at "v") => `(tactic| with_reducible first
  | refine W.v0 ?_ | refine W.v1 ?_ | refine W.v2 ?_ | refine W.v3 ?_ | refine W.v4 ?_ | refine W.v5 ?_ | refine W.v6 ?_ | refine W.v7 ?_ | refine W.v8 ?_
  | refine W.v9 ?_ | refine W.v10 ?_ | refine W.v11 ?_ | refine W.v12 ?_ | refine W.v13 ?_ | refine W.v14 ?_ | refine W.v15 ?_ | refine W.v16 ?_ | refine W.v17 ?_
  | refine W.g0 ?_ | refine W.g1 ?_ | refine W.g2 ?_ | refine W.g3 ?_ | refine W.g4 ?_ | refine W.g5 ?_ | refine W.g6 ?_ | refine W.g7 ?_ | refine W.g8 ?_
  | refine W.g9 ?_ | refine W.g10 ?_ | refine W.g11 ?_ | refine W.g12 ?_ | refine W.g13 ?_ | refine W.g14 ?_ | refine W.g15 ?_)
local macro_rules | `(tactic| walk_at "e") => `(tactic| with_reducible first
  | refine W.e_c ?_ | refine W.e_op ?_ | refine W.s_seq ?_ | refine W.s_asg ?_ | refine W.e_CB ?_ | refine W.a_cons ?_ | refine W.a_nil ?_ | refine W.e_call ?_
  | refine W.t_test ?_ | refine W.w_B ?_ | refine W.s_if ?_ | refine W.s_ret ?_ | refine W.s_drop ?_ | refine W.e_un ?_ | refine W.e_fld ?_ | refine W.s_fld ?_
  | refine W.e_meth ?_ | refine W.e_if ?_ | refine W.e_lst ?_ | refine W.e_tup ?_ | refine W.e_sl ?_ | refine W.o_none ?_ | refine W.o_some ?_ | refine W.w_part ?_
  | refine W.e_bm ?_ | refine W.e_bm0 ?_ | refine W.t_B ?_ | refine W.t_and ?_ | refine W.t_or ?_ | refine W.t_not ?_ | refine W.e_andV ?_ | refine W.e_orV ?_ | refine W.e_notV ?_ | refine W.w_BV ?_ | refine W.e_chain ?_
  | refine W.s_aug ?_ | refine W.s_augS ?_ | refine W.s_next ?_ | refine W.s_brk ?_ | refine W.s_cont ?_ | refine W.s_retN ?_ | refine W.s_fldaug ?_ | refine W.e_make ?_ | refine W.w_make ?_
  | refine W.w_I0 ?_ | refine W.w_U ?_ | refine W.w_aug ?_ | refine W.w_eqI ?_ | refine W.w_neI ?_ | refine W.w_eqS ?_ | refine W.w_neS ?_ | refine W.w_eqB ?_ | refine W.w_neB ?_
  | refine W.w_int ?_ | refine W.w_intB ?_ | refine W.w_min ?_ | refine W.w_max ?_ | refine W.w_isN ?_ | refine W.w_isI ?_ | refine W.w_isS ?_ | refine W.w_isB ?_ | refine W.w_isR ?_
  | refine W.w_notN ?_ | refine W.w_notI ?_ | refine W.w_notR ?_ | refine W.w_notS ?_ | refine W.w_eqNI ?_ | refine W.w_neNI ?_ | refine W.w_eqN ?_ | refine W.w_neN ?_
  | refine W.s_forL ?_ | refine W.s_forT ?_ | refine W.s_forS ?_ | refine W.s_forR1 ?_ | refine W.s_forR2 ?_ | refine W.s_forR3 ?_ | refine W.s_forZ ?_ | refine W.s_forE ?_
  | refine W.e_lcL ?_ | refine W.e_lcR1 ?_ | refine W.e_lcR2 ?_ | refine W.e_lcZ ?_ | refine W.e_lcS ?_ | refine W.t_yes ?_ | refine W.w_gcons ?_ | refine W.w_gnil ?_ | refine W.s_par ?_ | refine W.w_par ?_)
local macro_rules | `(tactic| walk_at "w") => `(tactic| first
  | ((with_reducible refine' W.w_I ?wh ?wq); (case wh => walk_at "c"))
  | ((with_reducible refine' W.w_ixL (n := 0) ?wh ?we ?wq); (case wh => walk_at "f"); (case we => walk_at "a"))
  | ((with_reducible refine' W.w_ixT (n := 0) ?wh ?we ?wq); (case wh => walk_at "f"); (case we => walk_at "a"))
  | ((with_reducible refine' W.w_lenL ?wh ?wq); (case wh => walk_at "f"))
  | ((with_reducible refine' W.w_lenT ?wh ?wq); (case wh => walk_at "f"))
  | ((with_reducible refine' W.w_lenS ?wh ?wq); (case wh => walk_at "n"))
  | ((with_reducible refine' W.w_app ?wh ?we ?wq); (case wh => walk_at "f"); (case we => walk_at "n"))
  | ((with_reducible refine' W.w_meth ?wh ?we ?wq); (case wh => walk_at "f"); (case we => first | assumption | rfl))
  | ((with_reducible refine' W.w_ixLTl ?wh ?we ?wq); (case wh => walk_at "f"); (case we => walk_at "a"))
  | ((with_reducible refine' W.w_ixLTt ?wh ?we ?wq); (case wh => walk_at "f"); (case we => walk_at "a"))
  | ((with_reducible refine' W.w_addS ?wh ?wq); (case wh => walk_at "n"))
  | ((with_reducible refine' W.w_set ?wh ?we ?wq); (case wh => walk_at "f"); (case we => walk_at "a"))
  | ((with_reducible refine' W.w_tup ?wh ?we ?wq); (case wh => walk_at "f"); (case we => first | assumption | rfl))
  | ((with_reducible refine' W.w_slS ?wh ?wq); (case wh => walk_at "n"))
  | ((with_reducible refine' W.w_rApp ?wh ?we ?wq); (case wh => walk_at "f"); (case we => walk_at "n"))
  | ((with_reducible refine' W.w_newL ?wh ?wq); (case wh => walk_at "n"))
  | ((with_reducible refine' W.w_newT ?wh ?wq); (case wh => walk_at "n"))
  | ((with_reducible refine' W.w_listL ?wh ?wq); (case wh => walk_at "f"))
  | ((with_reducible refine' W.w_tupL ?wh ?wq); (case wh => walk_at "f"))
  | ((with_reducible refine' W.w_slL ?wh ?wq); (case wh => walk_at "f"))
  | ((with_reducible refine' W.w_cat ?wh ?wf ?we ?wq); (case wh => walk_at "f"); (case wf => walk_at "f"); (case we => walk_at "n"))
  | ((with_reducible refine' W.w_ext ?wh ?wf ?we ?wq); (case wh => walk_at "f"); (case wf => walk_at "f"); (case we => walk_at "n"))
  | ((with_reducible refine' W.w_recv ?wh ?wq); (case wh => walk_at "f"))
  | ((with_reducible refine' W.w_isi1 ?wh ?we ?wq); (case wh => assumption); (case we => decide +kernel))
  | ((with_reducible refine' W.w_isi0 ?wh ?we ?wq); (case wh => assumption); (case we => decide +kernel))
  | ((with_reducible refine' W.w_isiT10 ?wh ?wf ?we ?wg ?wq); (case wh => assumption); (case wf => walk_at "f"); (case we => decide +kernel); (case wg => decide +kernel))
  | ((with_reducible refine' W.w_isiT01 ?wh ?wf ?we ?wg ?wq); (case wh => assumption); (case wf => walk_at "f"); (case we => decide +kernel); (case wg => decide +kernel))
  | ((with_reducible refine' W.w_isiT00 ?wh ?wf ?we ?wg ?wq); (case wh => assumption); (case wf => walk_at "f"); (case we => decide +kernel); (case wg => decide +kernel))
  | ((with_reducible refine' W.w_ins ?wh ?we ?wf ?wq); (case wh => walk_at "f"); (case we => walk_at "n"); (case wf => walk_at "c"))
  | ((with_reducible refine' W.w_unl ?wh ?we ?wq); (case wh => walk_at "f"); (case we => first | assumption | rfl))
  | ((with_reducible refine' W.ite_T ?_))
  | ((with_reducible refine' W.ite_F ?_))
  | ((with_reducible refine' W.ite_nT ?_))
  | ((with_reducible refine' W.ite_nF ?_))
  | ((with_reducible refine' W.ite_self ?_))
  | ((with_reducible refine' W.ite_nself ?_))
  | ((with_reducible refine' W.ite_tf ?_))
  | ((with_reducible refine' W.ite_ft ?_))
  | ((with_reducible refine' W.ite_ntf ?_))
  | ((with_reducible refine' W.ite_nft ?_))
  | ((with_reducible refine' And.intro ?wl ?wq); (case wl => rfl)))
local macro_rules | `(tactic| walk_at "i") => `(tactic| try (dsimp only [L2.cxOf, L2.wipe, List.map, List.set]))
local macro_rules | `(tactic| walk_at "s") => `(tactic| first | walk_at "v" | walk_at "e" | walk_at "w")
local macro_rules | `(tactic| walk_at "r") => `(tactic| repeat walk_at "s")

namespace My
open PySem L2 W
variable {P : Program} {w : World} {K : PySem.W.Frag} {mg : Str → Option Value} {base : Heap} {A : Adr}
/-! draws: only their range matters -/
def sp_mix : Sp := fun vs H Q _ => ∃ c k : Int, vs = [.int c, .int k] ∧ ∀ v, Q (.int v) H
theorem ok__law_mix (e : Env K mg A) : FnOk P w K mg base CX0 1 A.f__law_mix A.d__law_mix ["cell", "k"] sp_mix := by
  refine e.F__law_mix.ok sc__law_mix (fun vs H Q E h => ?_) (fun cdv AA outer s H vs Q E hr h => ?_)
  · obtain ⟨c, k, rfl, _⟩ := h
    rfl
  · obtain ⟨c, k, rfl, q⟩ := h
    refine ⟨_, (pss_cons (ps_set (i := 2) sc__law_mix.nd rfl (Or.inl rfl) (pe_op op_mod (pe_callTy call_int (by rfl) e.n_int (by decide +kernel) (pa_cons (pe_op op_add (pe_op op_add (pe_op op_mul (pe_callTy call_int (by rfl) e.n_int (by decide +kernel) (pa_cons (pv 0) pa_nil)) pe_int) (pe_op op_mul (pv 1) pe_int)) pe_int) pa_nil)) pe_int))
    (pss_cons (ps_set (i := 2) sc__law_mix.nd rfl (Or.inl rfl) (pe_op op_mod (pe_callTy call_int (by rfl) e.n_int (by decide +kernel) (pa_cons (pe_op op_add (pe_op op_add (pe_op op_mul (pv 2) (pv 2)) (pe_op op_mul (pv 1) pe_int)) pe_int) pa_nil)) pe_int))
    (pss_one (ps_ret (pe_op op_mod (pe_op op_fdiv (pv 2) pe_int) pe_int))))), ?_⟩
    refine enter (st__law_mix _ _) ?_
    walk_at "i"
    walk_at "r"
    exact q _
/-- the draws of a script: some list of ints -/
def sp_draws (K : PySem.W.Frag) : Sp := fun vs H Q _ => ∃ (a : Addr) (ns : List Int), vs = [.ref a] ∧ SqL K H a (ns.map V.int) ∧ ns.length ≤ 63 ∧
  ∀ p H' (ds : List Int), H p = none → Keep [] H H' → H' p = some (.lst (ds.map V.int)) → Q (.ref p) H'
theorem ok__law_draws (e : Env K mg A) : FnOk P w K mg base CX0 2 A.f__law_draws A.d__law_draws ["script"] (sp_draws K) := by
  have G__law_mix := ok__law_mix (P := P) (w := w) (base := base) e
  refine e.F__law_draws.ok sc__law_draws (fun vs H Q E h => ?_) (fun cdv AA outer s H vs Q E hr h => ?_)
  · obtain ⟨a, ns, rfl, _⟩ := h
    rfl
  · obtain ⟨a, ns, rfl, hS, hlen, q⟩ := h
    refine ⟨_, (pss_cons (ps_set (i := 1) sc__law_draws.nd rfl (Or.inl rfl) (pe_lst pa_nil))
    (pss_cons (ps_for PassesOwn.never rfl (pi_range1 rfl e.n_range (pa_cons (pe_callB (call_min rfl) (by rfl) e.n_min (by decide +kernel) (pa_cons pe_int (pa_cons (pe_callB call_lenL (by rfl) e.n_len (by decide +kernel) (pa_cons (pv 0) pa_nil)) pa_nil))) pa_nil)) (pg_name (i := 2) sc__law_draws.nd rfl (Or.inl rfl)) (pss_cons (ps_set (i := 3) sc__law_draws.nd rfl (Or.inl rfl) (pe_callTy call_int (by rfl) e.n_int (by decide +kernel) (pa_cons (pe_ix ix_list (pv 0) (pv 2) (fun _ _ => rfl)) pa_nil)))
    (pss_one (ps_if (pt_cmpR op_lt (pv 3) (pe_op op_pow pe_int pe_int) (nomark _)) (pss_one (ps_expr (pe_bm PySem.F.plainAttrs_list PySem.F.slot_list_append PySem.F.type_list_append mt_append (pv 1) (pa_cons (pe_call G__law_mix (hr.mono (by omega)) (by rfl) e.m__law_mix e.k__law_mix e.b__law_mix .nil pass0 (pa_cons (pv 3) (pa_cons (pv 2) pa_nil))) pa_nil)))) (pss_one (ps_for PassesOwn.never rfl (pi_range1 rfl e.n_range (pa_cons pe_int pa_nil)) (pg_name (i := 4) sc__law_draws.nd rfl (Or.inl rfl)) (pss_one (ps_if (pt_cmpR op_gt (pv 3) pe_int (nomark _)) (pss_cons (ps_expr (pe_bm PySem.F.plainAttrs_list PySem.F.slot_list_append PySem.F.type_list_append mt_append (pv 1) (pa_cons (pe_op op_mod (pe_callTy call_int (by rfl) e.n_int (by decide +kernel) (pa_cons (pv 3) pa_nil)) pe_int) pa_nil)))
    (pss_one (ps_set (i := 3) sc__law_draws.nd rfl (Or.inl rfl) (pe_op op_fdiv (pv 3) pe_int)))) pss_nil))))))))
    (pss_one (ps_ret (pv 1))))), ?_⟩
    refine enter (st__law_draws _) ?_
    walk_at "i"
    walk_at "r"
    intro p H1 hp k1 h1
    walk_at "r"
    rw [List.length_map]
    have hn : (if ((ns.length : Nat) : Int) < 63 then ((ns.length : Nat) : Int) else 63) = ns.length := by
      split <;> omega
    rw [hn]
    refine forR1 (by omega) (by omega) (fun i σ H' => ∃ (v2 v3 v4 : Option V) (ds : List Int), σ = [some (.ref a), some (.ref p), v2, v3, v4] ∧ Keep [] H H' ∧ H' p = some (.lst (ds.map V.int)) ∧ ds.length ≤ 60 * i)
      ⟨none, none, none, [], rfl, k1, h1, Nat.zero_le _⟩ ?_ ?_
    · rintro i σ H2 hi ⟨v2, v3, v4, ds, rfl, k2, h2, hl⟩
      have hS2 : SqL K H2 a (ns.map V.int) := k2.same.seq hS
      have hget : atI (ns.map V.int) (i : Int) = some (.int (ns.getD i 0)) := atI_nat (by
        rw [List.getElem?_map, List.getD_eq_getElem?_getD, List.getElem?_eq_getElem (by omega)]; rfl)
      walk_at "r"
      refine ite_dec (fun _ => ?_) (fun _ => ?_)
      · walk_at "r"
        refine ⟨_, _, rfl, fun v => ?_⟩
        walk_at "r"
        intro H3 k3 h3
        walk_at "r"
        exact ⟨_, _, _, ds ++ [v], rfl, by walk_at "k", by rw [h3, List.map_append]; rfl, by rw [List.length_append, List.length_singleton]; omega⟩
      · walk_at "r"
        refine forR1 (by omega) (by omega) (fun j σ H' => ∃ (v2 v4 : Option V) (c : Int) (ds : List Int), σ = [some (.ref a), some (.ref p), v2, some (.int c), v4] ∧ Keep [] H H' ∧ H' p = some (.lst (ds.map V.int)) ∧ ds.length ≤ 60 * i + j)
          ⟨_, _, _, ds, rfl, k2, h2, hl⟩ ?_ ?_
        · rintro j σ H3 hj ⟨w2, w4, c, ds3, rfl, k3, h3, hl3⟩
          walk_at "r"
          refine ite_dec (fun _ => ?_) (fun _ => ?_)
          · walk_at "r"
            intro H4 k4 h4
            walk_at "r"
            exact ⟨_, _, _, ds3 ++ [c % 9973], rfl, by walk_at "k", by rw [h4, List.map_append]; rfl, by rw [List.length_append, List.length_singleton]; omega⟩
          · walk_at "r"
            exact ⟨_, _, _, ds3, rfl, k3, h3, by omega⟩
        · rintro σ H3 ⟨w2, w4, c, ds3, rfl, k3, h3, hl3⟩
          exact ⟨_, _, _, ds3, rfl, k3, h3, by simp at hl3; omega⟩
    · rintro σ H2 ⟨v2, v3, v4, ds, rfl, k2, h2, hl⟩
      walk_at "r"
      exact q p H2 ds hp k2 h2
def sp_at (K : PySem.W.Frag) : Sp := fun vs H Q _ => ∃ (d : Addr) (ds : List Int) (i : Int), vs = [.ref d, .int i] ∧ SqL K H d (ds.map V.int) ∧ 0 ≤ i ∧ ∀ v, Q (.int v) H
theorem at_int {ds : List Int} {i : Int} (h : 0 ≤ i) (l : i < ds.length) : ∃ v, atI (ds.map V.int) i = some (.int v) := by
  obtain ⟨n, rfl⟩ := Int.eq_ofNat_of_zero_le h
  refine ⟨ds.getD n 0, atI_nat ?_⟩
  rw [List.getElem?_map, List.getD_eq_getElem?_getD, List.getElem?_eq_getElem (by omega)]; rfl
theorem ok__law_at (e : Env K mg A) : FnOk P w K mg base CX0 2 A.f__law_at A.d__law_at ["draws", "index"] (sp_at K) := by
  have G__law_mix := ok__law_mix (P := P) (w := w) (base := base) e
  refine e.F__law_at.ok sc__law_at (fun vs H Q E h => ?_) (fun cdv AA outer s H vs Q E hr h => ?_)
  · obtain ⟨d, ds, i, rfl, _⟩ := h
    rfl
  · obtain ⟨d, ds, i, rfl, hS, hi, q⟩ := h
    refine ⟨_, (pss_cons (ps_if (pt_cmpR op_lt (pv 1) (pe_callB call_lenL (by rfl) e.n_len (by decide +kernel) (pa_cons (pv 0) pa_nil)) (nomark _)) (pss_one (ps_ret (pe_ix ix_list (pv 0) (pv 1) (fun _ _ => rfl)))) pss_nil)
    (pss_cons (ps_if (pt_cmpR op_eq (pe_callB call_lenL (by rfl) e.n_len (by decide +kernel) (pa_cons (pv 0) pa_nil)) pe_int (nomark _)) (pss_one (ps_ret (pe_call G__law_mix (hr.mono (by omega)) (by rfl) e.m__law_mix e.k__law_mix e.b__law_mix .nil pass0 (pa_cons (pv 1) (pa_cons pe_int pa_nil))))) pss_nil)
    (pss_one (ps_ret (pe_call G__law_mix (hr.mono (by omega)) (by rfl) e.m__law_mix e.k__law_mix e.b__law_mix .nil pass0 (pa_cons (pe_op op_add (pe_ix ix_list (pv 0) (pe_op op_mod (pe_callTy call_int (by rfl) e.n_int (by decide +kernel) (pa_cons (pv 1) pa_nil)) (pe_callB call_lenL (by rfl) e.n_len (by decide +kernel) (pa_cons (pv 0) pa_nil))) (fun _ _ => rfl)) (pe_op op_mul (pv 1) pe_int)) (pa_cons (pv 1) pa_nil))))))), ?_⟩
    refine enter (st__law_at _ _) ?_
    walk_at "i"
    walk_at "r"
    rw [List.length_map]
    refine ite_dec (fun hl => ?_) (fun hl => ?_)
    · obtain ⟨v, hv⟩ := at_int hi hl
      walk_at "r"
      exact q v
    · walk_at "r"
      rw [List.length_map]
      refine ite_dec (fun h0 => ?_) (fun h0 => ?_)
      · walk_at "r"
        exact ⟨_, _, rfl, q⟩
      · walk_at "r"
        rw [List.length_map]
        obtain ⟨v, hv⟩ := at_int (ds := ds) (i := i % (ds.length : Int)) (Int.emod_nonneg _ h0) (Int.emod_lt_of_pos _ (by omega))
        refine w_I (by omega) ?_
        walk_at "r"
        exact ⟨_, _, rfl, q⟩
/-- the state: its draws at d, its place at a -/
def Drw (a d : Addr) (ds : List Int) (H : Hp) : Prop := ∃ i : Int, 0 ≤ i ∧ H a = some (.lst [.ref d, .int i]) ∧ H d = some (.lst (ds.map V.int))
def sp_next (K : PySem.W.Frag) : Sp := fun vs H Q _ => ∃ (a d : Addr) (ds : List Int) (m : Int), vs = [.ref a, .int m] ∧ Drw a d ds H ∧ 0 < m ∧
  ∀ v H', 0 ≤ v → v < m → Keep [a] H H' → Drw a d ds H' → Q (.int v) H'
theorem ok__law_next (e : Env K mg A) : FnOk P w K mg base CX0 3 A.f__law_next A.d__law_next ["state", "limit"] (sp_next K) := by
  have G__law_at := ok__law_at (P := P) (w := w) (base := base) e
  refine e.F__law_next.ok sc__law_next (fun vs H Q E h => ?_) (fun cdv AA outer s H vs Q E hr h => ?_)
  · obtain ⟨a, d, ds, m, rfl, _⟩ := h
    rfl
  · obtain ⟨a, d, ds, m, rfl, ⟨i, hi, ha, hd⟩, hm, q⟩ := h
    have had : d ≠ a := by
      intro z
      subst z
      rw [ha] at hd
      cases ds with
      | nil => cases hd
      | cons x r => cases hd
    refine ⟨_, (pss_cons (ps_augS (pv 0) pe_int get_list pe_int ip_add set_list)
    (pss_one (ps_ret (pe_op op_mod (pe_call G__law_at (hr.mono (by omega)) (by rfl) e.m__law_at e.k__law_at e.b__law_at .nil pass0 (pa_cons (pe_ix ix_list (pv 0) pe_int (fun _ _ => rfl)) (pa_cons (pe_ix ix_list (pv 0) pe_int (fun _ _ => rfl)) pa_nil))) (pv 1))))), ?_⟩
    refine enter (st__law_next _ _) ?_
    walk_at "i"
    walk_at "r"
    intro H1 k1 h1
    have hd1 : H1 d = some (.lst (ds.map V.int)) := by walk_at "k"
    walk_at "r"
    refine ⟨d, ds, i + 1, rfl, SqL.of hd1, by omega, fun v => ?_⟩
    walk_at "r"
    exact q _ H1 (Int.emod_nonneg _ (by omega)) (Int.emod_lt_of_pos _ hm) k1 ⟨i + 1, by omega, h1, hd1⟩
end My

set_option maxHeartbeats 4000000

namespace My
open PySem L2 W
variable {P : Program} {w : World} {K : PySem.W.Frag} {mg : Str → Option Value} {base : Heap} {A : Adr}
/-! equal data are told to be the same -/
def sp_isint : Sp := fun vs H Q _ => ∃ i : Int, vs = [.int i] ∧ Q (.bl true) H
theorem ok__law_is_integer (e : Env K mg A) : FnOk P w K mg base CX0 1 A.f__law_is_integer A.d__law_is_integer ["actual"] sp_isint := by
  refine e.F__law_is_integer.ok sc__law_is_integer (fun vs H Q E h => ?_) (fun cdv AA outer s H vs Q E hr h => ?_)
  · obtain ⟨c, rfl, _⟩ := h
    rfl
  · obtain ⟨c, rfl, q⟩ := h
    refine ⟨_, (pss_one (ps_ret (pe_and (pe_callB call_isi (by rfl) e.n_isinstance (by decide +kernel) (pa_cons (pv 0) (pa_cons (pe_bltn (v := .ty "int") (by rfl) e.n_int (by decide +kernel) rfl) pa_nil))) (pe_one (pe_not (pe_callB call_isi (by rfl) e.n_isinstance (by decide +kernel) (pa_cons (pv 0) (pa_cons (pe_bltn (v := .ty "bool") (by rfl) e.n_bool (by decide +kernel) rfl) pa_nil)))))))), ?_⟩
    refine enter (st__law_is_integer _) ?_
    walk_at "i"
    have t1 : TyX K H (.int c) (.type "int") := .base (.int c)
    walk_at "r"
    exact q
def sp_same : Nat → Sp
  | 0 => fun _ _ _ _ => False
  | n + 1 => fun vs H Q _ => ∃ (x y : V) (d : PyData), vs = [x, y] ∧ Da H d x ∧ Da H d y ∧ dep d ≤ n ∧ wid d ≤ 16777216 ∧ ∀ H', Keep [] H H' → Q (.bl true) H'
theorem ok__law_same (e : Env K mg A) : ∀ n, FnOk P w K mg base CX0 (n + 1) A.f__law_same A.d__law_same ["actual", "expected"] (sp_same n)
  | 0 => ⟨fun _ _ _ _ h => h.elim, fun _ _ _ _ _ _ _ _ _ _ _ _ _ h => h.elim⟩
  | n + 1 => by
    have G__law_is_integer := ok__law_is_integer (P := P) (w := w) (base := base) e
    have G__law_same := ok__law_same e n
    refine e.F__law_same.ok sc__law_same (fun vs H Q E h => ?_) (fun cdv AA outer s H vs Q E hr h => ?_)
    · obtain ⟨x, y, d, rfl, _⟩ := h
      rfl
    · obtain ⟨x, y, d, rfl, hx, hy, hd, hw, q⟩ := h
      refine ⟨_, (pss_cons (ps_if (pt_val (pe_callB call_isiT (by rfl) e.n_isinstance (by decide +kernel) (pa_cons (pv 1) (pa_cons (pe_tup (pa_cons (pe_bltn (v := .ty "list") (by rfl) e.n_list (by decide +kernel) rfl) (pa_cons (pe_bltn (v := .ty "tuple") (by rfl) e.n_tuple (by decide +kernel) rfl) pa_nil))) pa_nil)))) (pss_cons (ps_if (PW.pt (pw_or (pt_cmpR op_ne (pe_callB call_isi (by rfl) e.n_isinstance (by decide +kernel) (pa_cons (pv 1) (pa_cons (pe_bltn (v := .ty "list") (by rfl) e.n_list (by decide +kernel) rfl) pa_nil))) (pe_callB call_isi (by rfl) e.n_isinstance (by decide +kernel) (pa_cons (pv 0) (pa_cons (pe_bltn (v := .ty "list") (by rfl) e.n_list (by decide +kernel) rfl) pa_nil))) (nomark _)) (pw_or1 (pt_cmpR op_ne (pe_callB call_isi (by rfl) e.n_isinstance (by decide +kernel) (pa_cons (pv 1) (pa_cons (pe_bltn (v := .ty "tuple") (by rfl) e.n_tuple (by decide +kernel) rfl) pa_nil))) (pe_callB call_isi (by rfl) e.n_isinstance (by decide +kernel) (pa_cons (pv 0) (pa_cons (pe_bltn (v := .ty "tuple") (by rfl) e.n_tuple (by decide +kernel) rfl) pa_nil))) (nomark _))))) (pss_one (ps_ret pe_bl)) pss_nil)
    (pss_cons (ps_if (pt_cmpR op_ne (pe_callB call_lenL (by rfl) e.n_len (by decide +kernel) (pa_cons (pv 0) pa_nil)) (pe_callB call_lenL (by rfl) e.n_len (by decide +kernel) (pa_cons (pv 1) pa_nil)) (nomark _)) (pss_one (ps_ret pe_bl)) pss_nil)
    (pss_cons (ps_for PassesOwn.never rfl (pi_range1 rfl e.n_range (pa_cons (pe_callB call_lenL (by rfl) e.n_len (by decide +kernel) (pa_cons (pv 1) pa_nil)) pa_nil)) (pg_name (i := 2) sc__law_same.nd rfl (Or.inl rfl)) (pss_one (ps_if (pt_not (pt_val (pe_call G__law_same (hr.mono (by omega)) (by rfl) e.m__law_same e.k__law_same e.b__law_same .nil pass0 (pa_cons (pe_ix ix_lt (pv 0) (pv 2) (fun _ _ => rfl)) (pa_cons (pe_ix ix_lt (pv 1) (pv 2) (fun _ _ => rfl)) pa_nil))))) (pss_one (ps_ret pe_bl)) pss_nil)))
    (pss_one (ps_ret pe_bl))))) pss_nil)
    (pss_cons (ps_if (pt_cmpR op_isNo (pv 1) pe_non (nomark _)) (pss_one (ps_ret (pe_cmpR op_isNo (pv 0) pe_non (nomark _)))) pss_nil)
    (pss_cons (ps_if (pt_val (pe_callB call_isi (by rfl) e.n_isinstance (by decide +kernel) (pa_cons (pv 1) (pa_cons (pe_bltn (v := .ty "bool") (by rfl) e.n_bool (by decide +kernel) rfl) pa_nil)))) (pss_one (ps_ret (pe_and (pe_callB call_isi (by rfl) e.n_isinstance (by decide +kernel) (pa_cons (pv 0) (pa_cons (pe_bltn (v := .ty "bool") (by rfl) e.n_bool (by decide +kernel) rfl) pa_nil))) (pe_one (pe_cmpR op_eq (pv 0) (pv 1) (nomark _)))))) pss_nil)
    (pss_cons (ps_if (pt_val (pe_callB call_isi (by rfl) e.n_isinstance (by decide +kernel) (pa_cons (pv 1) (pa_cons (pe_bltn (v := .ty "int") (by rfl) e.n_int (by decide +kernel) rfl) pa_nil)))) (pss_one (ps_ret (pe_and (pe_call G__law_is_integer (hr.mono (by omega)) (by rfl) e.m__law_is_integer e.k__law_is_integer e.b__law_is_integer .nil pass0 (pa_cons (pv 0) pa_nil)) (pe_one (pe_cmpR op_eq (pv 0) (pv 1) (nomark _)))))) pss_nil)
    (pss_one (ps_ret (pe_and (pe_callB call_isi (by rfl) e.n_isinstance (by decide +kernel) (pa_cons (pv 0) (pa_cons (pe_bltn (v := .ty "str") (by rfl) e.n_str (by decide +kernel) rfl) pa_nil))) (pe_one (pe_cmpR op_eq (pv 0) (pv 1) (nomark _)))))))))), ?_⟩
      refine enter (st__law_same _ _) ?_
      walk_at "i"
      walk_at "r"
      intro tp H1 np k1 htp
      have hx1 := hx.mono k1.same
      have hy1 := hy.mono k1.same
      have tx := hx1.ty (K := K)
      have ty := hy1.ty (K := K)
      cases d with
      | none =>
        simp only [Da] at hx1 hy1
        simp only [tyName] at tx ty
        subst hx1 hy1
        walk_at "r"
        exact q _ k1
      | bool b =>
        simp only [Da] at hx1 hy1
        simp only [tyName] at tx ty
        subst hx1 hy1
        walk_at "r"
        simp only [decide_true]
        exact q _ k1
      | int i =>
        simp only [Da] at hx1 hy1
        simp only [tyName] at tx ty
        subst hx1 hy1
        walk_at "r"
        refine ⟨_, rfl, ?_⟩
        walk_at "r"
        simp only [decide_true]
        exact q _ k1
      | str z =>
        simp only [Da] at hx1 hy1
        simp only [tyName] at tx ty
        subst hx1 hy1
        walk_at "r"
        simp only [decide_true]
        exact q _ k1
      | list ds =>
        simp only [Da] at hx1 hy1
        simp only [tyName] at tx ty
        obtain ⟨a, xs, rfl, ha, hxs⟩ := hx1
        obtain ⟨b, ys, rfl, hb, hys⟩ := hy1
        walk_at "r"
        rw [hxs.len, hys.len]
        walk_at "r"
        rw [hys.len]
        have hz : ds.length ≤ 16777216 := by simp only [wid] at hw; omega
        refine forR1 (by omega) (by omega) (fun i σ H' => ∃ v2, σ = [some (.ref a), some (.ref b), v2] ∧ Keep [] H1 H') ⟨_, rfl, Keep.refl⟩ ?_ ?_
        · rintro i σ H2 hi ⟨v2, rfl, k2⟩
          have ha2 : H2 a = some (.lst xs) := k2.same _ _ ha
          have hb2 : H2 b = some (.lst ys) := k2.same _ _ hb
          obtain ⟨x, ex⟩ : ∃ x, xs[i]? = some x := ⟨_, List.getElem?_eq_getElem (by have := hxs.len; omega)⟩
          obtain ⟨y, ey⟩ : ∃ y, ys[i]? = some y := ⟨_, List.getElem?_eq_getElem (by have := hys.len; omega)⟩
          have ax := atI_nat ex
          have ay := atI_nat ey
          obtain ⟨d, ed, dx⟩ := hxs.get ex
          obtain ⟨d', ed', dy⟩ := hys.get ey
          rw [ed] at ed'
          cases ed'
          walk_at "r"
          cases n with
          | zero => simp only [dep] at hd; omega
          | succ n =>
            refine ⟨x, y, d, rfl, dx.mono k2.same, dy.mono k2.same, ?_, ?_, fun H3 k3 => ?_⟩
            · have := depL_get ed
              simp only [dep] at hd
              omega
            · have := widL_get ed
              simp only [wid] at hw
              omega
            walk_at "r"
            exact ⟨_, rfl, k2.trans k3⟩
        · rintro σ H2 ⟨v2, rfl, k2⟩
          walk_at "r"
          exact q _ (k1.trans k2)
      | tuple ds =>
        simp only [Da] at hx1 hy1
        simp only [tyName] at tx ty
        obtain ⟨a, xs, rfl, ha, hxs⟩ := hx1
        obtain ⟨b, ys, rfl, hb, hys⟩ := hy1
        walk_at "r"
        rw [hxs.len, hys.len]
        walk_at "r"
        rw [hys.len]
        have hz : ds.length ≤ 16777216 := by simp only [wid] at hw; omega
        refine forR1 (by omega) (by omega) (fun i σ H' => ∃ v2, σ = [some (.ref a), some (.ref b), v2] ∧ Keep [] H1 H') ⟨_, rfl, Keep.refl⟩ ?_ ?_
        · rintro i σ H2 hi ⟨v2, rfl, k2⟩
          have ha2 : H2 a = some (.tup xs) := k2.same _ _ ha
          have hb2 : H2 b = some (.tup ys) := k2.same _ _ hb
          obtain ⟨x, ex⟩ : ∃ x, xs[i]? = some x := ⟨_, List.getElem?_eq_getElem (by have := hxs.len; omega)⟩
          obtain ⟨y, ey⟩ : ∃ y, ys[i]? = some y := ⟨_, List.getElem?_eq_getElem (by have := hys.len; omega)⟩
          have ax := atI_nat ex
          have ay := atI_nat ey
          obtain ⟨d, ed, dx⟩ := hxs.get ex
          obtain ⟨d', ed', dy⟩ := hys.get ey
          rw [ed] at ed'
          cases ed'
          walk_at "r"
          cases n with
          | zero => simp only [dep] at hd; omega
          | succ n =>
            refine ⟨x, y, d, rfl, dx.mono k2.same, dy.mono k2.same, ?_, ?_, fun H3 k3 => ?_⟩
            · have := depL_get ed
              simp only [dep] at hd
              omega
            · have := widL_get ed
              simp only [wid] at hw
              omega
            walk_at "r"
            exact ⟨_, rfl, k2.trans k3⟩
        · rintro σ H2 ⟨v2, rfl, k2⟩
          walk_at "r"
          exact q _ (k1.trans k2)
      | dict ds => simp [Da] at hx
end My

set_option maxHeartbeats 4000000

namespace My
open PySem L2 W
/-! files -/
inductive Stp where
  | app (b : Int)
  | cut (n : Nat)
def stp : Stp → List V
  | .app b => [.str "append", .int b]
  | .cut n => [.str "truncate", .int (n : Int)]
/-- the same as the law writes it -/
def stl : Stp → List V
  | .app b => [.int 0, .int b]
  | .cut n => [.int 1, .int (n : Int)]
def step1 (d : List Int) : Stp → List Int
  | .app b => d ++ [b]
  | .cut n => d.take n
def applyS (d : List Int) (ss : List Stp) : List Int := ss.foldl step1 d
theorem applyS_len : ∀ (ss : List Stp) (d : List Int), (applyS d ss).length ≤ d.length + ss.length
  | [], d => by simp [applyS]
  | .app b :: r, d => by
    have h := applyS_len r (d ++ [b])
    show (applyS (d ++ [b]) r).length ≤ _
    simp at h ⊢
    omega
  | .cut n :: r, d => by
    have h := applyS_len r (d.take n)
    show (applyS (d.take n) r).length ≤ _
    simp at h ⊢
    omega
theorem applyS_snoc (d : List Int) (ss : List Stp) (x : Stp) : applyS d (ss ++ [x]) = step1 (applyS d ss) x := by simp [applyS]
theorem sne : ¬ (("_steps" : Str) = "_lasting") := by decide +kernel
theorem sne' : ¬ (("_lasting" : Str) = "_steps") := by decide +kernel
theorem ane : ("append" : Str) = "append" := rfl
theorem ane' : ¬ (("truncate" : Str) = "append") := by decide +kernel
def fileF (l1 l2 : Addr) : List (Str × V) := [("_lasting", .ref l1), ("_steps", .ref l2)]
theorem lk1 {l1 l2 : Addr} : (fileF l1 l2).lookup ("_lasting" : Str) = some (.ref l1) := by simp [fileF, List.lookup]
theorem lk2 {l1 l2 : Addr} : (fileF l1 l2).lookup ("_steps" : Str) = some (.ref l2) := by
  have h : (("_steps" : Str) == "_lasting") = false := by decide +kernel
  simp [fileF, List.lookup, h]
theorem lkn {l1 l2 : Addr} {m : Str} (h1 : (m == ("_lasting" : Str)) = false) (h2 : (m == ("_steps" : Str)) = false) : (fileF l1 l2).lookup m = none := by simp [fileF, List.lookup, h1, h2]
theorem pf1 {l1 l2 m : Addr} : putF "_lasting" (.ref m) (fileF l1 l2) = fileF m l2 := by
  show (if ("_lasting" : Str) = "_lasting" then (("_lasting" : Str), V.ref m) :: [(("_steps" : Str), V.ref l2)] else _) = _
  rw [if_pos rfl]; rfl
theorem pf2 {l1 l2 m : Addr} : putF "_steps" (.ref m) (fileF l1 l2) = fileF l1 m := by
  show (if ("_lasting" : Str) = "_steps" then _ else (("_lasting" : Str), V.ref l1) :: (if ("_steps" : Str) = "_steps" then [(("_steps" : Str), V.ref m)] else _)) = _
  rw [if_neg sne', if_pos rfl]; rfl
theorem pf0 {l1 l2 : Addr} : putF "_steps" (.ref l2) (putF "_lasting" (.ref l1) []) = fileF l1 l2 := by
  show (if ("_lasting" : Str) = "_steps" then _ else (("_lasting" : Str), V.ref l1) :: [(("_steps" : Str), V.ref l2)]) = _
  rw [if_neg sne']; rfl
/-- a file stands at f: what lasts at l1, the steps at l2 -/
def FileAt (C : Addr) (H : Hp) (f dx l1 l2 : Addr) (d : List Int) (ss : List Stp) : Prop :=
  l1 ≠ l2 ∧ H f = some (.ins C dx (fileF l1 l2)) ∧ H l1 = some (.lst (d.map V.int)) ∧ ∃ vs, H l2 = some (.lst vs) ∧ Tups stp H vs ss
def limV : Option Nat → V
  | none => .non
  | some n => .int (n : Int)
def took (n : Nat) : Option Nat → Nat
  | none => n
  | some k => min k n
local macro_rules | `(tactic| walk_at "w") => `(tactic| first
  | ((with_reducible refine' W.w_getF ?wh ?wc ?wn ?wl ?wq); (case wh => walk_at "f"); (case wc => exact Env.c_File (by assumption)); (case wn => first | exact Env.x_File__lasting (by assumption) | exact Env.x_File__steps (by assumption)); (case wl => first | exact lk1 | exact lk2))
  | ((with_reducible refine' W.w_setF ?wh ?wc ?wn ?wl ?wq); (case wh => walk_at "f"); (case wc => exact Env.c_File (by assumption)); (case wn => first | exact Env.x_File__lasting (by assumption) | exact Env.x_File__steps (by assumption)); (case wl => first | exact (show 2 < 1000 by decide) | exact (show 0 < 1000 by decide) | exact Nat.lt_of_le_of_lt (length_putF _ _ _) (show 1 < 1000 by decide) | exact Nat.lt_of_le_of_lt (length_putF _ _ _) (show 3 < 1000 by decide))))
variable {P : Program} {w : World} {K : PySem.W.Frag} {mg : Str → Option Value} {base : Heap} {A : Adr}
/-- the steps made: for the program's own steps -/
def sp_applied (f : Stp → List V) : Sp := fun vs H Q _ => ∃ (a b : Addr) (d : List Int) (us : List V) (ss : List Stp), vs = [.ref a, .ref b] ∧ H a = some (.lst (d.map V.int)) ∧ H b = some (.lst us) ∧ Tups f H us ss ∧ d.length + ss.length ≤ 1000000 ∧
  ∀ p H', H p = none → Keep [] H H' → H' p = some (.lst ((applyS d ss).map V.int)) → Q (.ref p) H'
theorem cut_take (d : List Int) (n : Nat) : cutV (d.map V.int) none (some (n : Int)) = (d.take n).map V.int := by
  unfold cutV
  rw [HT.sIx_none, HT.sIx_nat, List.map_take]
  simp [List.take_take]
theorem ok__applied (e : Env K mg A) : FnOk P w K mg base CX0 1 A.f__applied A.d__applied ["data", "steps"] (sp_applied stp) := by
  refine e.F__applied.ok sc__applied (fun vs H Q E h => ?_) (fun cdv AA outer s H vs Q E hr h => ?_)
  · obtain ⟨a, b, d, us, ss, rfl, _⟩ := h
    rfl
  · obtain ⟨a, b, d, us, ss, rfl, ha, hb, ht, hl, q⟩ := h
    refine ⟨_, (pss_cons (ps_set (i := 2) sc__applied.nd rfl (Or.inl rfl) (pe_callTy call_listL (by rfl) e.n_list (by decide +kernel) (pa_cons (pv 0) pa_nil)))
    (pss_cons (ps_for PassesOwn.never rfl (pi_list (pv 1)) (pg_tup rfl (pgs_cons (pg_name (i := 3) sc__applied.nd rfl (Or.inl rfl)) (pgs_cons (pg_name (i := 4) sc__applied.nd rfl (Or.inl rfl)) pgs_nil))) (pss_one (ps_if (pt_cmpR op_eq (pv 3) pe_str (nomark _)) (pss_one (ps_expr (pe_bm PySem.F.plainAttrs_list PySem.F.slot_list_append PySem.F.type_list_append mt_append (pv 2) (pa_cons (pv 4) pa_nil)))) (pss_one (ps_set (i := 2) sc__applied.nd rfl (Or.inl rfl) (pe_slice sl_list (pv 2) po_none (po_some (pv 4))))))))
    (pss_one (ps_ret (pv 2))))), ?_⟩
    refine enter (st__applied _ _) ?_
    walk_at "i"
    walk_at "r"
    intro p H1 hp k1 h1
    walk_at "r"
    refine forL (SqL.of (k1.same _ _ hb)) (fun i σ H' => ∃ (v3 v4 : Option V) (q : Addr), σ = [some (.ref a), some (.ref b), some (.ref q), v3, v4] ∧ H q = none ∧ Keep [] H H' ∧ H' q = some (.lst ((applyS d (ss.take i)).map V.int)))
      ⟨_, _, p, rfl, hp, k1, h1⟩ (fun i σ H' _ ⟨_, _, _, _, _, k, _⟩ => SqL.of (k.same _ _ hb)) ?_ ?_
    · rintro i x σ H2 hi ⟨v3, v4, r, rfl, hr0, k2, h2⟩
      obtain ⟨t, z, rfl, hz, htup⟩ := ht.get hi
      have htup2 := k2.same _ _ htup
      have hlen := applyS_len (ss.take i) d
      have hi2 := (List.getElem?_eq_some_iff.mp hz).1
      rw [List.length_take] at hlen
      have e1 : ss.take (i + 1) = ss.take i ++ [z] := by
        rw [List.take_add_one, hz]; rfl
      cases z with
      | app c =>
        simp only [stp] at htup2
        walk_at "r"
        intro H3 k3 h3
        walk_at "r"
        refine ⟨_, _, r, rfl, hr0, by walk_at "k", ?_⟩
        rw [h3, e1, applyS_snoc]
        show _ = some (HO.lst ((applyS d (ss.take i) ++ [c]).map V.int))
        rw [List.map_append]; rfl
      | cut n =>
        simp only [stp] at htup2
        walk_at "r"
        rw [decide_eq_false ane']
        walk_at "r"
        rw [cut_take]
        intro r2 H3 hr2 k3 h3
        walk_at "r"
        refine ⟨_, _, r2, rfl, k2.free hr2 (by simp), k2.trans k3, ?_⟩
        rw [h3, e1, applyS_snoc]
        rfl
    · rintro σ H2 ⟨v3, v4, r, rfl, hr0, k2, h2⟩
      walk_at "r"
      rw [ht.len, List.take_length] at h2
      exact q r H2 hr0 k2 h2
theorem ok__law_after (e : Env K mg A) : FnOk P w K mg base CX0 1 A.f__law_after A.d__law_after ["data", "steps"] (sp_applied stl) := by
  refine e.F__law_after.ok sc__law_after (fun vs H Q E h => ?_) (fun cdv AA outer s H vs Q E hr h => ?_)
  · obtain ⟨a, b, d, us, ss, rfl, _⟩ := h
    rfl
  · obtain ⟨a, b, d, us, ss, rfl, ha, hb, ht, hl, q⟩ := h
    refine ⟨_, (pss_cons (ps_set (i := 0) sc__law_after.nd rfl (Or.inl rfl) (pe_callTy call_listL (by rfl) e.n_list (by decide +kernel) (pa_cons (pv 0) pa_nil)))
    (pss_cons (ps_for PassesOwn.never rfl (pi_list (pv 1)) (pg_tup rfl (pgs_cons (pg_name (i := 2) sc__law_after.nd rfl (Or.inl rfl)) (pgs_cons (pg_name (i := 3) sc__law_after.nd rfl (Or.inl rfl)) pgs_nil))) (pss_one (ps_if (pt_cmpR op_eq (pv 2) pe_int (nomark _)) (pss_one (ps_expr (pe_bm PySem.F.plainAttrs_list PySem.F.slot_list_append PySem.F.type_list_append mt_append (pv 0) (pa_cons (pv 3) pa_nil)))) (pss_one (ps_set (i := 0) sc__law_after.nd rfl (Or.inl rfl) (pe_slice sl_list (pv 0) po_none (po_some (pv 3))))))))
    (pss_one (ps_ret (pv 0))))), ?_⟩
    refine enter (st__law_after _ _) ?_
    walk_at "i"
    walk_at "r"
    intro p H1 hp k1 h1
    walk_at "r"
    refine forL (SqL.of (k1.same _ _ hb)) (fun i σ H' => ∃ (v3 v4 : Option V) (q : Addr), σ = [some (.ref q), some (.ref b), v3, v4] ∧ H q = none ∧ Keep [] H H' ∧ H' q = some (.lst ((applyS d (ss.take i)).map V.int)))
      ⟨_, _, p, rfl, hp, k1, h1⟩ (fun i σ H' _ ⟨_, _, _, _, _, k, _⟩ => SqL.of (k.same _ _ hb)) ?_ ?_
    · rintro i x σ H2 hi ⟨v3, v4, r, rfl, hr0, k2, h2⟩
      obtain ⟨t, z, rfl, hz, htup⟩ := ht.get hi
      have htup2 := k2.same _ _ htup
      have hlen := applyS_len (ss.take i) d
      have hi2 := (List.getElem?_eq_some_iff.mp hz).1
      rw [List.length_take] at hlen
      have e1 : ss.take (i + 1) = ss.take i ++ [z] := by
        rw [List.take_add_one, hz]; rfl
      cases z with
      | app c =>
        simp only [stl] at htup2
        walk_at "r"
        intro H3 k3 h3
        walk_at "r"
        refine ⟨_, _, r, rfl, hr0, by walk_at "k", ?_⟩
        rw [h3, e1, applyS_snoc]
        show _ = some (HO.lst ((applyS d (ss.take i) ++ [c]).map V.int))
        rw [List.map_append]; rfl
      | cut n =>
        simp only [stl] at htup2
        walk_at "r"
        refine ite_N (by omega) ?_
        walk_at "r"
        rw [cut_take]
        intro r2 H3 hr2 k3 h3
        walk_at "r"
        refine ⟨_, _, r2, rfl, k2.free hr2 (by simp), k2.trans k3, ?_⟩
        rw [h3, e1, applyS_snoc]
        rfl
    · rintro σ H2 ⟨v3, v4, r, rfl, hr0, k2, h2⟩
      walk_at "r"
      rw [ht.len, List.take_length] at h2
      exact q r H2 hr0 k2 h2

end My

set_option maxHeartbeats 4000000

namespace My
open PySem L2 W
local macro_rules | `(tactic| walk_at "w") => `(tactic| first
  | ((with_reducible refine' W.w_getF ?wh ?wc ?wn ?wl ?wq); (case wh => walk_at "f"); (case wc => exact Env.c_File (by assumption)); (case wn => first | exact Env.x_File__lasting (by assumption) | exact Env.x_File__steps (by assumption)); (case wl => first | exact lk1 | exact lk2))
  | ((with_reducible refine' W.w_setF ?wh ?wc ?wn ?wl ?wq); (case wh => walk_at "f"); (case wc => exact Env.c_File (by assumption)); (case wn => first | exact Env.x_File__lasting (by assumption) | exact Env.x_File__steps (by assumption)); (case wl => first | exact (show 2 < 1000 by decide) | exact (show 0 < 1000 by decide) | exact Nat.lt_of_le_of_lt (length_putF _ _ _) (show 1 < 1000 by decide) | exact Nat.lt_of_le_of_lt (length_putF _ _ _) (show 3 < 1000 by decide))))
variable {P : Program} {w : World} {K : PySem.W.Frag} {mg : Str → Option Value} {base : Heap} {A : Adr}
def sp_init (C : Addr) : Sp := fun vs H Q _ => ∃ (f dx : Addr), vs = [.ref f] ∧ H f = some (.ins C dx []) ∧
  ∀ H' l1 l2, Keep [f] H H' → H l1 = none → H l2 = none → FileAt C H' f dx l1 l2 [] [] → Q .non H'
theorem ok_File___init__ (e : Env K mg A) : FnOk P w K mg base CX0 1 A.f_File___init__ A.d_File___init__ ["self"] (sp_init A.C_File) := by
  refine e.F_File___init__.ok sc_File___init__ (fun vs H Q E h => ?_) (fun cdv AA outer s H vs Q E hr h => ?_)
  · obtain ⟨f, dx, rfl, _⟩ := h
    rfl
  · obtain ⟨f, dx, rfl, hf, q⟩ := h
    refine ⟨_, (pss_cons (ps_fld (pv 0) (pe_lst pa_nil) rfl)
    (pss_one (ps_fld (pv 0) (pe_lst pa_nil) rfl))), ?_⟩
    refine enter (st_File___init__ _) ?_
    walk_at "i"
    walk_at "r"
    intro l1 H1 n1 k1 h1
    walk_at "r"
    intro H2 k2 h2
    walk_at "r"
    intro l2 H3 n2 k3 h3
    walk_at "r"
    intro H4 k4 h4
    walk_at "r"
    rw [pf0] at h4
    refine q H4 l1 l2 ?_ n1 ?_ ⟨?_, h4, ?_, [], ?_, Tups.nil⟩ <;> walk_at "k"
def sp_shorten (C : Addr) : Sp := fun vs H Q _ => ∃ (f dx l1 l2 : Addr) (d : List Int) (ss : List Stp) (n : Nat) (lim : Option Nat), vs = [.ref f, .int (n : Int), limV lim] ∧ FileAt C H f dx l1 l2 d ss ∧ ss.length ≤ 1000000 ∧
  (lim = some 0 → Q (.int 0) H) ∧ (lim ≠ some 0 → ∀ H', Keep [l2] H H' → FileAt C H' f dx l1 l2 d (ss ++ [.cut n]) → Q (.int 1) H')
theorem ok_File_shorten (e : Env K mg A) : FnOk P w K mg base CX0 1 A.f_File_shorten A.d_File_shorten ["self", "size", "steps"] (sp_shorten A.C_File) := by
  refine e.F_File_shorten.ok sc_File_shorten (fun vs H Q E h => ?_) (fun cdv AA outer s H vs Q E hr h => ?_)
  · obtain ⟨f, dx, l1, l2, d, ss, n, lim, rfl, _⟩ := h
    rfl
  · obtain ⟨f, dx, l1, l2, d, ss, n, lim, rfl, ⟨hne, hf, h1, vs, h2, ht⟩, hl, q0, q⟩ := h
    have hlen := ht.len
    have go : ∀ lim, lim ≠ some 0 → (∀ H', Keep [l2] H H' → FileAt A.C_File H' f dx l1 l2 d (ss ++ [.cut n]) → Q (.int 1) H') → True := fun _ _ _ => trivial
    refine ⟨_, (pss_cons (ps_if (pt_cmpR op_eq (pv 2) pe_int (nomark _)) (pss_one (ps_ret pe_int)) pss_nil)
    (pss_cons (ps_expr (pe_bm PySem.F.plainAttrs_list PySem.F.slot_list_append PySem.F.type_list_append mt_append (pe_fld (pv 0) rfl) (pa_cons (pe_tup (pa_cons pe_str (pa_cons (pv 1) pa_nil))) pa_nil)))
    (pss_one (ps_ret pe_int)))), ?_⟩
    refine enter (st_File_shorten _ _ _) ?_
    walk_at "i"
    walk_at "r"
    cases lim with
    | none =>
      simp only [limV]
      walk_at "r"
      intro t H1 nt k1 htu
      walk_at "r"
      intro H2 k2 h2'
      walk_at "r"
      refine q (by simp) H2 (by walk_at "k") ⟨hne, by walk_at "k", by walk_at "k", _, h2', ?_⟩
      exact ((ht.keep k1).keep k2).snoc (k2.2 _ _ htu)
    | some k =>
      simp only [limV]
      walk_at "r"
      refine ite_dec (fun hk => ?_) (fun hk => ?_)
      · walk_at "r"
        exact q0 (by simp; omega)
      · walk_at "r"
        intro t H1 nt k1 htu
        walk_at "r"
        intro H2 k2 h2'
        walk_at "r"
        refine q (by simp; omega) H2 (by walk_at "k") ⟨hne, by walk_at "k", by walk_at "k", _, h2', ?_⟩
        exact ((ht.keep k1).keep k2).snoc (k2.2 _ _ htu)
def sp_pending (C : Addr) : Sp := fun vs H Q _ => ∃ (f dx l1 l2 : Addr) (d : List Int) (ss : List Stp), vs = [.ref f] ∧ FileAt C H f dx l1 l2 d ss ∧ Q (.int ss.length) H
theorem ok_File_pending (e : Env K mg A) : FnOk P w K mg base CX0 1 A.f_File_pending A.d_File_pending ["self"] (sp_pending A.C_File) := by
  refine e.F_File_pending.ok sc_File_pending (fun vs H Q E h => ?_) (fun cdv AA outer s H vs Q E hr h => ?_)
  · obtain ⟨f, dx, l1, l2, d, ss, rfl, _⟩ := h
    rfl
  · obtain ⟨f, dx, l1, l2, d, ss, rfl, ⟨hne, hf, h1, vs, h2, ht⟩, q⟩ := h
    refine ⟨_, (pss_one (ps_ret (pe_callB call_lenL (by rfl) e.n_len (by decide +kernel) (pa_cons (pe_fld (pv 0) rfl) pa_nil)))), ?_⟩
    refine enter (st_File_pending _) ?_
    walk_at "i"
    walk_at "r"
    rw [ht.len]
    exact q
def sp_content (C : Addr) : Sp := fun vs H Q _ => ∃ (f dx l1 l2 : Addr) (d : List Int) (ss : List Stp), vs = [.ref f] ∧ FileAt C H f dx l1 l2 d ss ∧ d.length + ss.length ≤ 1000000 ∧
  ∀ p H', H p = none → Keep [] H H' → H' p = some (.lst ((applyS d ss).map V.int)) → Q (.ref p) H'
theorem ok_File_content (e : Env K mg A) : FnOk P w K mg base CX0 2 A.f_File_content A.d_File_content ["self"] (sp_content A.C_File) := by
  have G__applied := ok__applied (P := P) (w := w) (base := base) e
  refine e.F_File_content.ok sc_File_content (fun vs H Q E h => ?_) (fun cdv AA outer s H vs Q E hr h => ?_)
  · obtain ⟨f, dx, l1, l2, d, ss, rfl, _⟩ := h
    rfl
  · obtain ⟨f, dx, l1, l2, d, ss, rfl, ⟨hne, hf, h1, vs, h2, ht⟩, hl, q⟩ := h
    refine ⟨_, (pss_one (ps_ret (pe_call G__applied (hr.mono (by omega)) (by rfl) e.m__applied e.k__applied e.b__applied .nil pass0 (pa_cons (pe_fld (pv 0) rfl) (pa_cons (pe_fld (pv 0) rfl) pa_nil))))), ?_⟩
    refine enter (st_File_content _) ?_
    walk_at "i"
    walk_at "r"
    exact ⟨l1, l2, d, vs, ss, rfl, h1, h2, ht, hl, q⟩
def sp_lose (C : Addr) : Sp := fun vs H Q _ => ∃ (f dx l1 l2 : Addr) (d : List Int) (ss : List Stp) (n : Nat), vs = [.ref f, .int (n : Int)] ∧ FileAt C H f dx l1 l2 d ss ∧ d.length + ss.length ≤ 1000000 ∧
  ∀ H' l1' l2', Keep [f] H H' → H l1' = none → H l2' = none → FileAt C H' f dx l1' l2' (applyS d (ss.take n)) [] → Q .non H'
theorem cut_takeV (vs : List V) (n : Nat) : cutV vs none (some (n : Int)) = vs.take n := by
  unfold cutV
  rw [HT.sIx_none, HT.sIx_nat]
  simp [List.take_take]
theorem ok_File_lose (e : Env K mg A) : FnOk P w K mg base CX0 2 A.f_File_lose A.d_File_lose ["self", "steps"] (sp_lose A.C_File) := by
  have G__applied := ok__applied (P := P) (w := w) (base := base) e
  refine e.F_File_lose.ok sc_File_lose (fun vs H Q E h => ?_) (fun cdv AA outer s H vs Q E hr h => ?_)
  · obtain ⟨f, dx, l1, l2, d, ss, n, rfl, _⟩ := h
    rfl
  · obtain ⟨f, dx, l1, l2, d, ss, n, rfl, ⟨hne, hf, h1, vs, h2, ht⟩, hl, q⟩ := h
    refine ⟨_, (pss_cons (ps_fld (pv 0) (pe_call G__applied (hr.mono (by omega)) (by rfl) e.m__applied e.k__applied e.b__applied .nil pass0 (pa_cons (pe_fld (pv 0) rfl) (pa_cons (pe_slice sl_list (pe_fld (pv 0) rfl) po_none (po_some (pv 1))) pa_nil))) rfl)
    (pss_one (ps_fld (pv 0) (pe_lst pa_nil) rfl))), ?_⟩
    refine enter (st_File_lose _ _) ?_
    walk_at "i"
    walk_at "r"
    rw [cut_takeV]
    intro c H1 nc k1 hc
    walk_at "r"
    refine ⟨l1, c, d, _, ss.take n, rfl, k1.same _ _ h1, hc, (ht.keep k1).take n, by rw [List.length_take]; omega, fun p H2 np k2 hp => ?_⟩
    walk_at "r"
    intro H3 k3 h3
    walk_at "r"
    intro l2' H4 n4 k4 h4
    walk_at "r"
    intro H5 k5 h5
    walk_at "r"
    rw [pf1, pf2] at h5
    refine q H5 p l2' ?_ ?_ ?_ ⟨?_, h5, ?_, [], ?_, Tups.nil⟩ <;> walk_at "k"
def sp_flush (C : Addr) : Sp := fun vs H Q _ => ∃ (f dx l1 l2 : Addr) (d : List Int) (ss : List Stp) (lim : Option Nat), vs = [.ref f, limV lim] ∧ FileAt C H f dx l1 l2 d ss ∧ d.length + ss.length ≤ 1000000 ∧
  (lim = some 0 → Q (.int 0) H) ∧ (lim ≠ some 0 → ∀ H' l1' l2', Keep [f] H H' → H l1' = none → H l2' = none → FileAt C H' f dx l1' l2' (applyS d ss) [] → Q (.int 1) H')
theorem no_lose {l1 l2 : Addr} : (fileF l1 l2).lookup ("lose" : Str) = none := lkn (by decide +kernel) (by decide +kernel)
theorem ok_File_flush (e : Env K mg A) : FnOk P w K mg base CX0 3 A.f_File_flush A.d_File_flush ["self", "steps"] (sp_flush A.C_File) := by
  have G_File_lose := ok_File_lose (P := P) (w := w) (base := base) e
  refine e.F_File_flush.ok sc_File_flush (fun vs H Q E h => ?_) (fun cdv AA outer s H vs Q E hr h => ?_)
  · obtain ⟨f, dx, l1, l2, d, ss, lim, rfl, _⟩ := h
    rfl
  · obtain ⟨f, dx, l1, l2, d, ss, lim, rfl, hF, hl, q0, q⟩ := h
    obtain ⟨hne, hf, h1, vs, h2, ht⟩ := id hF
    have hn := no_lose (l1 := l1) (l2 := l2)
    have hlen := ht.len
    refine ⟨_, (pss_cons (ps_if (pt_cmpR op_eq (pv 1) pe_int (nomark _)) (pss_one (ps_ret pe_int)) pss_nil)
    (pss_cons (ps_expr (pe_meth (pv 0) e.c_File e.h_File_lose G_File_lose (hr.mono (by omega)) e.b_File_lose .nil pass0 (pa_cons (pe_callB call_lenL (by rfl) e.n_len (by decide +kernel) (pa_cons (pe_fld (pv 0) rfl) pa_nil)) pa_nil)))
    (pss_one (ps_ret pe_int)))), ?_⟩
    refine enter (st_File_flush _ _) ?_
    walk_at "i"
    walk_at "r"
    have go : lim ≠ some 0 → ∀ (rest : VK), (∀ H', rest .non H' → Q (.int 1) H') → True := fun _ _ _ => trivial
    cases lim with
    | none =>
      simp only [limV]
      walk_at "r"
      refine ⟨f, dx, l1, l2, d, ss, vs.length, rfl, hF, hl, fun H1 m1 m2 k1 n1 n2 hF1 => ?_⟩
      rw [hlen, List.take_length] at hF1
      walk_at "r"
      exact q (by simp) H1 m1 m2 k1 n1 n2 hF1
    | some k =>
      simp only [limV]
      walk_at "r"
      refine ite_dec (fun hk => ?_) (fun hk => ?_)
      · walk_at "r"
        exact q0 (by simp; omega)
      · walk_at "r"
        refine ⟨f, dx, l1, l2, d, ss, vs.length, rfl, hF, hl, fun H1 m1 m2 k1 n1 n2 hF1 => ?_⟩
        rw [hlen, List.take_length] at hF1
        walk_at "r"
        exact q (by simp; omega) H1 m1 m2 k1 n1 n2 hF1
def sp_write (C : Addr) : Sp := fun vs H Q _ => ∃ (f dx l1 l2 p : Addr) (d bs : List Int) (ss : List Stp) (lim : Option Nat), vs = [.ref f, .ref p, limV lim] ∧ FileAt C H f dx l1 l2 d ss ∧ H p = some (.lst (bs.map V.int)) ∧ ss.length + bs.length ≤ 1000000 ∧
  ∀ H', Keep [l2] H H' → FileAt C H' f dx l1 l2 d (ss ++ (bs.take (took bs.length lim)).map .app) → Q (.int (took bs.length lim : Nat)) H'
theorem ok_File_write (e : Env K mg A) : FnOk P w K mg base CX0 1 A.f_File_write A.d_File_write ["self", "data", "steps"] (sp_write A.C_File) := by
  refine e.F_File_write.ok sc_File_write (fun vs H Q E h => ?_) (fun cdv AA outer s H vs Q E hr h => ?_)
  · obtain ⟨f, dx, l1, l2, p, d, bs, ss, lim, rfl, _⟩ := h
    rfl
  · obtain ⟨f, dx, l1, l2, p, d, bs, ss, lim, rfl, ⟨hne, hf, h1, vs, h2, ht⟩, hp, hl, q⟩ := h
    have hlen := ht.len
    refine ⟨_, (Evl.pss_cut (ps_set (i := 3) sc_File_write.nd rfl (Or.inl rfl) (pe_ifExp (pt_cmpR op_isNo (pv 2) pe_non (nomark _)) (pe_callB call_lenL (by rfl) e.n_len (by decide +kernel) (pa_cons (pv 1) pa_nil)) (pe_callB (call_min rfl) (by rfl) e.n_min (by decide +kernel) (pa_cons (pv 2) (pa_cons (pe_callB call_lenL (by rfl) e.n_len (by decide +kernel) (pa_cons (pv 1) pa_nil)) pa_nil)))))
    (pss_cons (ps_expr (pe_bm PySem.F.plainAttrs_list PySem.F.slot_list_extend PySem.F.type_list_extend mt_extend (pe_fld (pv 0) rfl) (pa_cons (pe_lc (own := [("byte", 4)]) (by rfl) sc_File_write.nd (pi_list (pe_slice sl_list (pv 1) po_none (po_some (pv 3)))) (blkOk_by (own := [("byte", 4)]) (N := nm_File_write) (sc := defScope s_File_write) (by decide +kernel)) (fun _ _ _ _ _ => (pg_name (i := 4) sc_File_write.nd rfl (Or.inl rfl))) (fun _ _ _ _ _ => pts_nil) (fun _ _ _ _ _ => (pe_tup (pa_cons pe_str (pa_cons (pv 4) pa_nil))))) pa_nil)))
    (pss_one (ps_ret (pv 3))))), ?_⟩
    refine enter (st_File_write _ _ _) ?_
    walk_at "i"
    refine s_cut (fun σ' H' => H' = H ∧ σ' = [some (.ref f), some (.ref p), some (limV lim), some (.int (took bs.length lim : Nat)), none]) ?_ ?_
    · cases lim with
      | none =>
        simp only [limV]
        walk_at "r"
        rw [List.length_map]; rfl
      | some k =>
        simp only [limV]
        walk_at "r"
        rw [List.length_map]
        have e : (if ((bs.length : Nat) : Int) < (k : Int) then ((bs.length : Nat) : Int) else (k : Int)) = ((took bs.length (some k) : Nat) : Int) := by
          show _ = ((min k bs.length : Nat) : Int)
          split <;> omega
        rw [e]
    · rintro σ' H' ⟨rfl, rfl⟩
      generalize took bs.length lim = n at q ⊢
      walk_at "r"
      rw [cut_take]
      intro r H1 nr k1 hr1
      refine lcL (SqL.of hr1) (fun D i H' => Keep [] H1 H' ∧ ∃ us, H' D = some (.lst us) ∧ us.length ≤ i ∧ Tups stp H' us (((bs.take n).take i).map .app)) (fun D H2 nD k2 hD => ⟨k2, [], hD, Nat.le_refl _, Tups.nil⟩) (fun D i H' _ h => SqL.of (h.1.same _ _ hr1)) ?_ ?_
      · rintro D i x H2 nD hi ⟨k2, us, hus, hul, htu⟩
        obtain ⟨c, hc, rfl⟩ : ∃ c, (bs.take n)[i]? = some c ∧ x = V.int c := by
          rw [List.getElem?_map] at hi
          cases e : (bs.take n)[i]? with
          | none => rw [e] at hi; cases hi
          | some c => rw [e] at hi; cases hi; exact ⟨c, rfl, rfl⟩
        have hi2 := (List.getElem?_eq_some_iff.mp hc).1
        rw [List.length_take] at hi2
        walk_at "i"
        walk_at "r"
        intro t H3 nt k3 htt
        walk_at "r"
        intro H4 k4 h4
        refine ⟨by walk_at "k", _, h4, by simp; omega, ?_⟩
        rw [List.take_add_one, hc]
        simp only [Option.toList_some, List.map_append, List.map_cons, List.map_nil]
        exact ((htu.keep k3).keep k4).snoc (k4.2 _ _ htt)
      · rintro D H2 nD ⟨k2, us, hus, hul, htu⟩
        rw [List.length_map, List.take_length] at htu
        have hul2 := htu.len
        simp only [List.length_map, List.length_take] at hul2
        walk_at "r"
        intro H3 k3 h3
        walk_at "r"
        have ht3 := ((ht.keep k1).keep k2).keep k3
        refine q H3 (by walk_at "k") ⟨hne, by walk_at "k", by walk_at "k", _, h3, ht3.append (htu.keep k3)⟩
end My

set_option maxHeartbeats 8000000

namespace My
open PySem L2 W
variable {P : Program} {w : World} {K : PySem.W.Frag} {mg : Str → Option Value} {base : Heap} {A : Adr}
theorem FileAt.keep {S : List Addr} {C : Addr} {H H' : Hp} {f dx l1 l2 : Addr} {d : List Int} {ss : List Stp} (h : FileAt C H f dx l1 l2 d ss) (k : Keep S H H') (n0 : f ∉ S) (n1 : l1 ∉ S) (n2 : l2 ∉ S) : FileAt C H' f dx l1 l2 d ss := by
  obtain ⟨hne, hf, h1, vs, h2, ht⟩ := h
  exact ⟨hne, k.get hf n0, k.get h1 n1, vs, k.get h2 n2, ht.keep k⟩
theorem Drw.keep {S : List Addr} {H H' : Hp} {a d : Addr} {ds : List Int} (h : Drw a d ds H) (k : Keep S H H') (n0 : a ∉ S) (n1 : d ∉ S) : Drw a d ds H' := by
  obtain ⟨i, hi, h1, h2⟩ := h
  exact ⟨i, hi, k.get h1 n0, k.get h2 n1⟩
theorem Drw.ne {H : Hp} {a d : Addr} {ds : List Int} (h : Drw a d ds H) : d ≠ a := by
  obtain ⟨i, hi, h1, h2⟩ := h
  intro z
  subst z
  rw [h1] at h2
  cases ds with
  | nil => cases h2
  | cons x r => cases h2
theorem Drw.ins {H : Hp} {a d f C dx : Addr} {fs : List (Str × V)} {ds : List Int} (h : Drw a d ds H) (hf : H f = some (.ins C dx fs)) : f ≠ a ∧ f ≠ d := by
  obtain ⟨i, hi, h1, h2⟩ := h
  exact ⟨ne_of hf h1 (by intro z; cases z), ne_of hf h2 (by intro z; cases z)⟩
def Sep (a dd al as_ l1 l2 : Addr) : Prop := a ≠ l1 ∧ a ≠ l2 ∧ dd ≠ l1 ∧ dd ≠ l2 ∧ al ≠ l1 ∧ al ≠ l2 ∧ as_ ≠ l1 ∧ as_ ≠ l2 ∧ al ≠ a ∧ as_ ≠ a
/-- what the law knows of its file: the same in the file and in the law's own lists -/
structure Know (C : Addr) (H : Hp) (a dd : Addr) (ds : List Int) (f dx al as_ l1 l2 : Addr) (d : List Int) (ss : List Stp) : Prop where
  dr : Drw a dd ds H
  fi : FileAt C H f dx l1 l2 d ss
  la : H al = some (.lst (d.map V.int))
  st : ∃ us, H as_ = some (.lst us) ∧ Tups stl H us ss
  se : Sep a dd al as_ l1 l2
def sp_deed (C : Addr) : Sp := fun vs H Q _ => ∃ (a dd f dx al as_ l1 l2 : Addr) (ds d : List Int) (ss : List Stp), vs = [.ref a, .ref f, .ref al, .ref as_] ∧ Know C H a dd ds f dx al as_ l1 l2 d ss ∧ d.length + ss.length ≤ 100000 ∧
  ∀ H' r al' as' l1' l2' d' ss', Keep [a, f, l2] H H' → H' r = some (.lst [.bl true, .ref al', .ref as']) → Know C H' a dd ds f dx al' as' l1' l2' d' ss' → d'.length + ss'.length ≤ d.length + ss.length + 60 →
    (l1' = l1 ∨ H l1' = none) → (l2' = l2 ∨ H l2' = none) → (al' = al ∨ H al' = none) → (as' = as_ ∨ H as' = none) → Q (.ref r) H'
theorem Know.next {C : Addr} {H H' : Hp} {a dd f dx al as_ l1 l2 : Addr} {ds d : List Int} {ss : List Stp} (h : Know C H a dd ds f dx al as_ l1 l2 d ss) (k : Keep [a] H H') (dr : Drw a dd ds H') : Know C H' a dd ds f dx al as_ l1 l2 d ss := by
  obtain ⟨dr0, fi, la, ⟨us, h1, h2⟩, se⟩ := h
  obtain ⟨s1, s2, s3, s4, s5, s6, s7, s8, s9, s10⟩ := id se
  have hf := (dr0.ins fi.2.1).1
  exact ⟨dr, fi.keep k (by simp [hf]) (by simp [Ne.symm s1]) (by simp [Ne.symm s2]), k.get la (by simp [s9]), ⟨us, k.get h1 (by simp [s10]), h2.keep k⟩, se⟩
theorem Know.more {C : Addr} {H H' : Hp} {a dd f dx al as_ l1 l2 : Addr} {ds d : List Int} {ss : List Stp} (h : Know C H a dd ds f dx al as_ l1 l2 d ss) (k : Keep [] H H') : Know C H' a dd ds f dx al as_ l1 l2 d ss := by
  obtain ⟨dr0, fi, la, ⟨us, h1, h2⟩, se⟩ := h
  exact ⟨dr0.keep k (by simp) (by simp), fi.keep k (by simp) (by simp) (by simp), k.get la (by simp), ⟨us, k.get h1 (by simp), h2.keep k⟩, se⟩
theorem no_lose' {l1 l2 : Addr} : (fileF l1 l2).lookup ("lose" : Str) = none := lkn (by decide +kernel) (by decide +kernel)
theorem no_write {l1 l2 : Addr} : (fileF l1 l2).lookup ("write" : Str) = none := lkn (by decide +kernel) (by decide +kernel)
theorem no_shorten {l1 l2 : Addr} : (fileF l1 l2).lookup ("shorten" : Str) = none := lkn (by decide +kernel) (by decide +kernel)
theorem no_flush {l1 l2 : Addr} : (fileF l1 l2).lookup ("flush" : Str) = none := lkn (by decide +kernel) (by decide +kernel)
theorem no_content {l1 l2 : Addr} : (fileF l1 l2).lookup ("content" : Str) = none := lkn (by decide +kernel) (by decide +kernel)
theorem no_pending {l1 l2 : Addr} : (fileF l1 l2).lookup ("pending" : Str) = none := lkn (by decide +kernel) (by decide +kernel)
theorem ok__law_deed (e : Env K mg A) : FnOk P w K mg base CX0 6 A.f__law_deed A.d__law_deed ["state", "file", "lasting", "steps"] (sp_deed A.C_File) := by
  have G__law_next := ok__law_next (P := P) (w := w) (base := base) e
  have G__law_after := ok__law_after (P := P) (w := w) (base := base) e
  have G__law_same := ok__law_same (P := P) (w := w) (base := base) e 3
  have G_File_write := ok_File_write (P := P) (w := w) (base := base) e
  have G_File_shorten := ok_File_shorten (P := P) (w := w) (base := base) e
  have G_File_flush := ok_File_flush (P := P) (w := w) (base := base) e
  have G_File_lose := ok_File_lose (P := P) (w := w) (base := base) e
  refine e.F__law_deed.ok sc__law_deed (fun vs H Q E h => ?_) (fun cdv AA outer s H vs Q E hr h => ?_)
  · obtain ⟨a, dd, f, dx, al, as_, l1, l2, ds, d, ss, rfl, _⟩ := h
    rfl
  · obtain ⟨a, dd, f, dx, al, as_, l1, l2, ds, d, ss, rfl, kn, hl, q⟩ := h
    refine ⟨_, (pss_cons (ps_set (i := 4) sc__law_deed.nd rfl (Or.inl rfl) (pe_call G__law_next (hr.mono (by omega)) (by rfl) e.m__law_next e.k__law_next e.b__law_next .nil pass0 (pa_cons (pv 0) (pa_cons pe_int pa_nil))))
    (pss_cons (ps_set (i := 5) sc__law_deed.nd rfl (Or.inl rfl) pe_non)
    (Evl.pss_cut (ps_if (pt_cmpR op_eq (pe_call G__law_next (hr.mono (by omega)) (by rfl) e.m__law_next e.k__law_next e.b__law_next .nil pass0 (pa_cons (pv 0) (pa_cons pe_int pa_nil))) pe_int (nomark _)) (pss_one (ps_set (i := 5) sc__law_deed.nd rfl (Or.inl rfl) (pe_ix ix_list (pe_lst (pa_cons (pe_call G__law_next (hr.mono (by omega)) (by rfl) e.m__law_next e.k__law_next e.b__law_next .nil pass0 (pa_cons (pv 0) (pa_cons pe_int pa_nil))) (pa_cons (pe_call G__law_next (hr.mono (by omega)) (by rfl) e.m__law_next e.k__law_next e.b__law_next .nil pass0 (pa_cons (pv 0) (pa_cons pe_int pa_nil))) pa_nil))) (pe_call G__law_next (hr.mono (by omega)) (by rfl) e.m__law_next e.k__law_next e.b__law_next .nil pass0 (pa_cons (pv 0) (pa_cons pe_int pa_nil))) (fun _ _ => rfl)))) pss_nil)
    (pss_cons (ps_if (pt_cmpR op_lt (pv 4) pe_int (nomark _)) (pss_cons (ps_setLc (i := 6) (own := [("k", 7)]) (by rfl) sc__law_deed.nd rfl rfl (sw_true rfl rfl rfl (by decide +kernel)) (pi_range1 rfl e.n_range (pa_cons (pe_op op_add (pe_call G__law_next (hr.mono (by omega)) (by rfl) e.m__law_next e.k__law_next e.b__law_next .nil pass0 (pa_cons (pv 0) (pa_cons pe_int pa_nil))) (pe_op op_mul pe_int (pe_callTy call_int (by rfl) e.n_int (by decide +kernel) (pa_cons (pe_cmpR op_eq (pe_call G__law_next (hr.mono (by omega)) (by rfl) e.m__law_next e.k__law_next e.b__law_next .nil pass0 (pa_cons (pv 0) (pa_cons pe_int pa_nil))) pe_int (nomark _)) pa_nil)))) pa_nil)) (blkOk_by (own := [("k", 7)]) (N := nm__law_deed) (sc := defScope s__law_deed) (by decide +kernel)) (fun _ _ _ _ _ => (pg_name (i := 7) sc__law_deed.nd rfl (Or.inl rfl))) (fun _ _ _ _ _ => pts_nil) (fun _ _ _ _ _ => (pe_call G__law_next (hr.mono (by omega)) (by rfl) e.m__law_next e.k__law_next e.b__law_next .nil pass0 (pa_cons (pv 0) (pa_cons pe_int pa_nil)))))
    (pss_cons (ps_set (i := 8) sc__law_deed.nd rfl (Or.inl rfl) (pe_callB call_lenL (by rfl) e.n_len (by decide +kernel) (pa_cons (pv 6) pa_nil)))
    (Evl.pss_cut (ps_if (pt_cmpR op_isNot (pv 5) pe_non (nomark _)) (pss_one (ps_set (i := 8) sc__law_deed.nd rfl (Or.inl rfl) (pe_callB (call_min rfl) (by rfl) e.n_min (by decide +kernel) (pa_cons (pv 8) (pa_cons (pv 5) pa_nil))))) pss_nil)
    (pss_cons (ps_set (i := 9) sc__law_deed.nd rfl (Or.inl rfl) (pe_callTy call_listL (by rfl) e.n_list (by decide +kernel) (pa_cons (pv 6) pa_nil)))
    (pss_cons (ps_set (i := 10) sc__law_deed.nd rfl (Or.inl rfl) (pe_meth (pv 1) e.c_File e.h_File_write G_File_write (hr.mono (by omega)) e.b_File_write .nil pass0 (pa_cons (pv 9) (pa_cons (pv 5) pa_nil))))
    (pss_cons (ps_if (pt_cmpR (op_neD hr.units) (pv 9) (pv 6) (nomark _)) (pss_one (ps_ret (pe_lst (pa_cons pe_bl (pa_cons (pv 2) (pa_cons (pv 3) pa_nil)))))) pss_nil)
    (pss_cons (ps_expr (pe_bm PySem.F.plainAttrs_list PySem.F.slot_list_insert PySem.F.type_list_insert mt_insertL (pv 9) (pa_cons pe_int (pa_cons pe_int pa_nil))))
    (pss_cons (ps_expr (pe_bm PySem.F.plainAttrs_list PySem.F.slot_list_append PySem.F.type_list_append mt_append (pv 9) (pa_cons pe_int pa_nil)))
    (pss_one (ps_ret (pe_lst (pa_cons (pe_call G__law_same (hr.mono (by omega)) (by rfl) e.m__law_same e.k__law_same e.b__law_same .nil pass0 (pa_cons (pv 10) (pa_cons (pv 8) pa_nil))) (pa_cons (pv 2) (pa_cons (pe_op op_cat (pv 3) (pe_lc (own := [("byte", 11)]) (by rfl) sc__law_deed.nd (pi_list (pe_slice sl_list (pv 6) po_none (po_some (pv 8)))) (blkOk_by (own := [("byte", 11)]) (N := nm__law_deed) (sc := defScope s__law_deed) (by decide +kernel)) (fun _ _ _ _ _ => (pg_name (i := 11) sc__law_deed.nd rfl (Or.inl rfl))) (fun _ _ _ _ _ => pts_nil) (fun _ _ _ _ _ => (pe_tup (pa_cons pe_int (pa_cons (pv 11) pa_nil)))))) pa_nil)))))))))))))) pss_nil)
    (pss_cons (ps_if (pt_cmpR op_lt (pv 4) pe_int (nomark _)) (pss_cons (ps_set (i := 12) sc__law_deed.nd rfl (Or.inl rfl) (pe_call G__law_next (hr.mono (by omega)) (by rfl) e.m__law_next e.k__law_next e.b__law_next .nil pass0 (pa_cons (pv 0) (pa_cons (pe_op op_add (pe_callB call_lenL (by rfl) e.n_len (by decide +kernel) (pa_cons (pe_call G__law_after (hr.mono (by omega)) (by rfl) e.m__law_after e.k__law_after e.b__law_after .nil pass0 (pa_cons (pv 2) (pa_cons (pv 3) pa_nil))) pa_nil)) pe_int) pa_nil))))
    (pss_cons (ps_set (i := 10) sc__law_deed.nd rfl (Or.inl rfl) (pe_meth (pv 1) e.c_File e.h_File_shorten G_File_shorten (hr.mono (by omega)) e.b_File_shorten .nil pass0 (pa_cons (pv 12) (pa_cons (pv 5) pa_nil))))
    (pss_cons (ps_if (pt_cmpR op_eq (pv 5) pe_int (nomark _)) (pss_one (ps_ret (pe_lst (pa_cons (pe_call G__law_same (hr.mono (by omega)) (by rfl) e.m__law_same e.k__law_same e.b__law_same .nil pass0 (pa_cons (pv 10) (pa_cons pe_int pa_nil))) (pa_cons (pv 2) (pa_cons (pv 3) pa_nil)))))) pss_nil)
    (pss_one (ps_ret (pe_lst (pa_cons (pe_call G__law_same (hr.mono (by omega)) (by rfl) e.m__law_same e.k__law_same e.b__law_same .nil pass0 (pa_cons (pv 10) (pa_cons pe_int pa_nil))) (pa_cons (pv 2) (pa_cons (pe_op op_cat (pv 3) (pe_lst (pa_cons (pe_tup (pa_cons pe_int (pa_cons (pv 12) pa_nil))) pa_nil))) pa_nil))))))))) pss_nil)
    (pss_cons (ps_if (pt_cmpR op_lt (pv 4) pe_int (nomark _)) (pss_cons (ps_set (i := 10) sc__law_deed.nd rfl (Or.inl rfl) (pe_meth (pv 1) e.c_File e.h_File_flush G_File_flush (hr.mono (by omega)) e.b_File_flush .nil pass0 (pa_cons (pv 5) pa_nil)))
    (pss_cons (ps_if (pt_cmpR op_eq (pv 5) pe_int (nomark _)) (pss_one (ps_ret (pe_lst (pa_cons (pe_call G__law_same (hr.mono (by omega)) (by rfl) e.m__law_same e.k__law_same e.b__law_same .nil pass0 (pa_cons (pv 10) (pa_cons pe_int pa_nil))) (pa_cons (pv 2) (pa_cons (pv 3) pa_nil)))))) pss_nil)
    (pss_one (ps_ret (pe_lst (pa_cons (pe_call G__law_same (hr.mono (by omega)) (by rfl) e.m__law_same e.k__law_same e.b__law_same .nil pass0 (pa_cons (pv 10) (pa_cons pe_int pa_nil))) (pa_cons (pe_call G__law_after (hr.mono (by omega)) (by rfl) e.m__law_after e.k__law_after e.b__law_after .nil pass0 (pa_cons (pv 2) (pa_cons (pv 3) pa_nil))) (pa_cons (pe_lst pa_nil) pa_nil)))))))) pss_nil)
    (pss_cons (ps_set (i := 8) sc__law_deed.nd rfl (Or.inl rfl) (pe_call G__law_next (hr.mono (by omega)) (by rfl) e.m__law_next e.k__law_next e.b__law_next .nil pass0 (pa_cons (pv 0) (pa_cons (pe_op op_add (pe_callB call_lenL (by rfl) e.n_len (by decide +kernel) (pa_cons (pv 3) pa_nil)) pe_int) pa_nil))))
    (pss_cons (ps_expr (pe_meth (pv 1) e.c_File e.h_File_lose G_File_lose (hr.mono (by omega)) e.b_File_lose .nil pass0 (pa_cons (pv 8) pa_nil)))
    (pss_one (ps_ret (pe_lst (pa_cons pe_bl (pa_cons (pe_call G__law_after (hr.mono (by omega)) (by rfl) e.m__law_after e.k__law_after e.b__law_after .nil pass0 (pa_cons (pv 2) (pa_cons (pe_slice sl_list (pv 3) po_none (po_some (pv 8))) pa_nil))) (pa_cons (pe_lst pa_nil) pa_nil)))))))))))))), ?_⟩
    refine enter (st__law_deed _ _ _ _) ?_
    walk_at "i"
    walk_at "r"
    refine ⟨a, dd, ds, 8, rfl, kn.dr, by omega, fun pick H1 p0 p1 k1 dr1 => ?_⟩
    walk_at "r"
    refine s_cut (fun σ' H' => ∃ lim : Option Nat, σ' = [some (.ref a), some (.ref f), some (.ref al), some (.ref as_), some (.int pick), some (limV lim), none, none, none, none, none, none, none] ∧ Keep [a] H H' ∧ Drw a dd ds H') ?_ ?_
    · walk_at "r"
      refine ⟨a, dd, ds, 3, rfl, dr1, by omega, fun v H2 v0 v1 k2 dr2 => ?_⟩
      walk_at "r"
      refine ite_dec (fun hv => ?_) (fun hv => ?_)
      · walk_at "r"
        refine ⟨a, dd, ds, 7, rfl, dr2, by omega, fun x H3 x0 x1 k3 dr3 => ?_⟩
        walk_at "r"
        refine ⟨a, dd, ds, 60, rfl, dr3, by omega, fun y H4 y0 y1 k4 dr4 => ?_⟩
        walk_at "r"
        intro p H5 np k5 hp
        walk_at "r"
        refine ⟨a, dd, ds, 2, rfl, dr4.keep k5 (by simp) (by simp), by omega, fun z H6 z0 z1 k6 dr6 => ?_⟩
        have hpa : p ≠ a := by
          obtain ⟨i, hi, h1, h2⟩ := dr4
          intro z
          rw [z, h1] at np
          cases np
        have hp6 : H6 p = some (.lst [.int x, .int y]) := k6.get hp (by simp [hpa])
        obtain ⟨x', rfl⟩ := Int.eq_ofNat_of_zero_le x0
        obtain ⟨y', rfl⟩ := Int.eq_ofNat_of_zero_le y0
        have kk : Keep [a] H H6 := k1.trans (k2.trans (k3.trans (k4.trans ((k5.mono (by simp)).trans k6))))
        rcases (show z = 0 ∨ z = 1 by omega) with rfl | rfl
        · walk_at "r"
          exact ⟨some x', rfl, kk, dr6⟩
        · walk_at "r"
          exact ⟨some y', rfl, kk, dr6⟩
      · walk_at "r"
        exact ⟨none, rfl, k1.trans k2, dr2⟩
    · rintro σ' H' ⟨lim, rfl, kH, dr⟩
      have kn1 := kn.next kH dr
      obtain ⟨_, ⟨hne, hf, hl1, vs, hl2, htv⟩, la, ⟨us, hus, htu⟩, se⟩ := id kn1
      have hlv := htv.len
      have hlu := htu.len
      have hw := no_write (l1 := l1) (l2 := l2)
      have hs := no_shorten (l1 := l1) (l2 := l2)
      have hfl := no_flush (l1 := l1) (l2 := l2)
      have hlo := no_lose' (l1 := l1) (l2 := l2)
      walk_at "r"
      refine ite_dec (fun hp3 => ?_) (fun hp3 => ?_)
      · walk_at "r"
        refine ⟨a, dd, ds, 10, rfl, dr, by omega, fun x H1 x0 x1 k1 dr1 => ?_⟩
        walk_at "r"
        refine ⟨a, dd, ds, 5, rfl, dr1, by omega, fun y H2 y0 y1 k2 dr2 => ?_⟩
        walk_at "r"
        have hn : ∃ n : Nat, x + 50 * (if decide (y = 0) = true then 1 else 0) = (n : Int) ∧ n < 60 := by
          refine ⟨(x + 50 * (if decide (y = 0) = true then 1 else 0)).toNat, ?_, ?_⟩ <;> split <;> omega
        obtain ⟨n, en, hn60⟩ := hn
        rw [en]
        refine lcR1 (by omega) (by omega) (fun D i H3 => Keep [a] H2 H3 ∧ Drw a dd ds H3 ∧ ∃ bs : List Int, H3 D = some (.lst (bs.map V.int)) ∧ bs.length = i) (fun D H3 nD k3 hD => ⟨k3.mono (by simp), dr2.keep k3 (by simp) (by simp), [], hD, rfl⟩) ?_ ?_
        · rintro D i H3 nD hi ⟨k3, dr3, bs, hD, hbl⟩
          walk_at "i"
          walk_at "r"
          refine ⟨a, dd, ds, 256, rfl, dr3, by omega, fun b H4 b0 b1 k4 dr4 => ?_⟩
          walk_at "r"
          have hDa : D ≠ a := by
            obtain ⟨j, hj, h1, h2⟩ := dr2
            intro z
            rw [z, h1] at nD
            cases nD
          have hD4 := k4.get hD (by simp [hDa])
          have hDd : dd ≠ D := by
            obtain ⟨j, hj, h1, h2⟩ := dr2
            intro z
            rw [← z, h2] at nD
            cases nD
          walk_at "r"
          intro H5 k5 h5
          exact ⟨by walk_at "k", dr4.keep k5 (by simp [Ne.symm hDa]) (by simp [hDd]), bs ++ [b], by rw [h5, List.map_append]; rfl, by simp [hbl]⟩
        · rintro D H3 nD ⟨k3, dr3, bs, hD, hbl⟩
          have hbn : bs.length = n := by rw [hbl]; simp
          subst hbn
          have kA : Keep [a] H H3 := kH.trans (k1.trans (k2.trans k3))
          have kn3 := kn1.next (k1.trans (k2.trans k3)) dr3
          obtain ⟨_, ⟨_, hf3, hl13, vs3, hl23, ht3⟩, la3, ⟨us3, hus3, htu3⟩, _⟩ := id kn3
          obtain ⟨s1, s2, s3, s4, s5, s6, s7, s8, s9, s10⟩ := id se
          have hDl2 : D ≠ l2 := by
            have h := (k1.trans k2).get hl2 (by simp [Ne.symm s2])
            intro z
            rw [z, h] at nD
            cases nD
          walk_at "r"
          rw [List.length_map]
          refine s_cut (fun σ' H' => H3 = H' ∧ σ' = [some (.ref a), some (.ref f), some (.ref al), some (.ref as_), some (.int pick), some (limV lim), some (.ref D), none, some (.int (took bs.length lim : Nat)), none, none, none, none]) ?_ ?_
          · cases lim with
            | none =>
              simp only [limV]
              walk_at "r"
              rfl
            | some k =>
              simp only [limV]
              walk_at "r"
              have e : (if (k : Int) < ((bs.length : Nat) : Int) then (k : Int) else ((bs.length : Nat) : Int)) = ((took bs.length (some k) : Nat) : Int) := by
                show _ = ((min k bs.length : Nat) : Int)
                split <;> omega
              rw [e]
          · rintro σ' H4 ⟨e1, rfl⟩
            subst e1
            walk_at "r"
            intro p H4 np k4 hp
            walk_at "r"
            have kn4 := kn3.more k4
            refine ⟨f, dx, l1, l2, p, d, bs, ss, lim, rfl, kn4.fi, hp, by omega, fun H5 k5 fi5 => ?_⟩
            have hpl2 : p ≠ l2 := by intro z; rw [z, hl23] at np; cases np
            have hpl1 : p ≠ l1 := by intro z; rw [z, hl13] at np; cases np
            have hpf : p ≠ f := by intro z; rw [z, hf3] at np; cases np
            have hpal : p ≠ al := by intro z; rw [z, la3] at np; cases np
            have hpas : p ≠ as_ := by intro z; rw [z, hus3] at np; cases np
            have hpD : p ≠ D := by intro z; rw [z, hD] at np; cases np
            have hpa : p ≠ a := by
              obtain ⟨j, hj, h1, h2⟩ := dr3
              intro z
              rw [z, h1] at np
              cases np
            have hpd : p ≠ dd := by
              obtain ⟨j, hj, h1, h2⟩ := dr3
              intro z
              rw [z, h2] at np
              cases np
            have hp5 := k5.get hp (by simp [hpl2])
            have hD5 := k5.get (k4.get hD (by simp)) (by simp [hDl2])
            walk_at "r"
            refine w_neD (.list (bs.map .int)) (Da.lst hp5 (DaL.ints bs)) (Da.lst hD5 (DaL.ints bs)) (shp_ints bs) ?_
            walk_at "r"
            intro H6 k6 h6
            walk_at "r"
            intro H7 k7 h7
            walk_at "r"
            refine ⟨_, _, .int _, rfl, Da.int, Da.int, by simp [dep], by simp [wid], fun H8 k8 => ?_⟩
            have kP : Keep [p] H5 H8 := k6.trans (k7.trans k8.any)
            have hD8 := kP.get hD5 (by simp [Ne.symm hpD])
            have hus8 := kP.get (k5.get (k4.get hus3 (by simp)) (by simp [s8])) (by simp [Ne.symm hpas])
            generalize hN : took bs.length lim = N at fi5 ⊢
            walk_at "r"
            rw [cut_take]
            intro r0 H9 nr0 k9 hr0
            refine lcL (SqL.of hr0) (fun D2 i H' => Keep [] H9 H' ∧ ∃ us2, H' D2 = some (.lst us2) ∧ us2.length ≤ i ∧ Tups stl H' us2 (((bs.take N).take i).map .app)) (fun D2 H2 nD k2 hD => ⟨k2, [], hD, Nat.le_refl _, Tups.nil⟩) (fun D2 i H' _ h => SqL.of (h.1.same _ _ hr0)) ?_ ?_
            · rintro D2 i x H10 nD2 hi ⟨k10, us2, hus2, hul, htu2⟩
              obtain ⟨c, hc, rfl⟩ : ∃ c, (bs.take N)[i]? = some c ∧ x = V.int c := by
                rw [List.getElem?_map] at hi
                cases e : (bs.take N)[i]? with
                | none => rw [e] at hi; cases hi
                | some c => rw [e] at hi; cases hi; exact ⟨c, rfl, rfl⟩
              have hi2 := (List.getElem?_eq_some_iff.mp hc).1
              rw [List.length_take] at hi2
              walk_at "i"
              walk_at "r"
              intro t H11 nt k11 htt
              walk_at "r"
              intro H12 k12 h12
              refine ⟨k10.trans k11 |>.mut nD2 k12, _, h12, by simp; omega, ?_⟩
              rw [List.take_add_one, hc]
              simp only [Option.toList_some, List.map_append, List.map_cons, List.map_nil]
              exact ((htu2.keep k11).keep k12).snoc (k12.2 _ _ htt)
            · rintro D2 H10 nD2 ⟨k10, us2, hus2, hul, htu2⟩
              rw [List.length_map, List.take_length] at htu2
              have hul2 := htu2.len
              simp only [List.length_map, List.length_take] at hul2
              have hus10 := k10.get (k9.get hus8 (by simp)) (by simp)
              have hul3 := htu3.len
              walk_at "r"
              intro r1 H11 nr1 k11 hr1
              walk_at "r"
              intro r2 H12 nr2 k12 hr2
              have kC : Keep [] H8 H12 := k9.trans (k10.trans (k11.trans k12))
              have kP2 : Keep [p] H5 H12 := kP.trans kC.any
              have np0 : H p = none := kA.free np (by simp [hpa])
              have kB : Keep [a, f, l2] H H5 := (kA.mono (by simp)).trans (k4.any.trans (k5.mono (by simp)))
              have hr1l1 : r1 ≠ l1 := by
                have h := k10.get (k9.get (kP.get fi5.2.2.1 (by simp [Ne.symm hpl1])) (by simp)) (by simp)
                intro z; rw [z, h] at nr1; cases nr1
              have hr1l2 : r1 ≠ l2 := by
                obtain ⟨vs5, h5, _⟩ := fi5.2.2.2
                have h := k10.get (k9.get (kP.get h5 (by simp [Ne.symm hpl2])) (by simp)) (by simp)
                intro z; rw [z, h] at nr1; cases nr1
              have dr12 : Drw a dd ds H12 := ((dr3.keep k4 (by simp) (by simp)).keep k5 (by simp [s2]) (by simp [s4])).keep kP2 (by simp [Ne.symm hpa]) (by simp [Ne.symm hpd])
              have hr1a : r1 ≠ a := by
                obtain ⟨j, hj, h1, h2⟩ := (((dr3.keep k4 (by simp) (by simp)).keep k5 (by simp [s2]) (by simp [s4])).keep kP (by simp [Ne.symm hpa]) (by simp [Ne.symm hpd])).keep (k9.trans k10) (by simp) (by simp)
                intro z; rw [z, h1] at nr1; cases nr1
              have hr1f : r1 ≠ f := by
                have h := k10.get (k9.get (kP.get fi5.2.1 (by simp [Ne.symm hpf])) (by simp)) (by simp)
                intro z; rw [z, h] at nr1; cases nr1
              have fr1 : H r1 = none := ((kB.mut np0 kP).trans (k9.trans k10).any).free nr1 (by simp [hr1a, hr1f, hr1l2])
              refine q H12 r2 al r1 l1 l2 d (ss ++ (bs.take N).map .app) (kB.mut np0 kP2) hr2 ⟨dr12, fi5.keep kP2 (by simp [Ne.symm hpf]) (by simp [Ne.symm hpl1]) (by simp [Ne.symm hpl2]), ?_, ⟨_, k12.get hr1 (by simp), ?_⟩, ⟨s1, s2, s3, s4, s5, s6, hr1l1, hr1l2, s9, hr1a⟩⟩ ?_ (.inl rfl) (.inl rfl) (.inl rfl) (.inr fr1)
              · exact kP2.get (k5.get (k4.get la3 (by simp)) (by simp [s6])) (by simp [Ne.symm hpal])
              · exact ((((htu3.keep k4).keep k5).keep kP2).append (htu2.keep (k11.trans k12)))
              · simp; omega
      · walk_at "r"
        refine ite_dec (fun hp5 => ?_) (fun hp5 => ?_)
        · walk_at "r"
          refine ⟨al, as_, d, us, ss, rfl, la, hus, htu, by omega, fun p H1 np k1 hp => ?_⟩
          walk_at "r"
          rw [List.length_map]
          have kn2 := kn1.more k1
          refine ⟨a, dd, ds, _, rfl, kn2.dr, by omega, fun z H2 z0 z1 k2 dr2 => ?_⟩
          have kn3 := kn2.next k2 dr2
          obtain ⟨z', rfl⟩ := Int.eq_ofNat_of_zero_le z0
          have hf3 := kn3.fi.2.1
          obtain ⟨s1, s2, s3, s4, s5, s6, s7, s8, s9, s10⟩ := id se
          have kA : Keep [a] H H2 := kH.trans (k1.any.trans k2)
          walk_at "r"
          refine ⟨f, dx, l1, l2, d, ss, z', lim, rfl, kn3.fi, by omega, fun e0 => ?_, fun ne H3 k3 fi3 => ?_⟩
          · subst e0
            simp only [limV]
            walk_at "r"
            refine ite_P (by simp) ?_
            walk_at "r"
            refine ⟨_, _, .int _, rfl, Da.int, Da.int, by simp [dep], by simp [wid], fun H3 k3 => ?_⟩
            walk_at "r"
            intro r H4 nr k4 hr4
            exact q H4 r al as_ l1 l2 d ss ((kA.mono (by simp)).trans (k3.any.trans k4.any)) hr4 (kn3.more (k3.trans k4)) (by omega) (.inl rfl) (.inl rfl) (.inl rfl) (.inl rfl)
          · have fin : sp_same 3 ([.int 1, .int 1] ++ []) H3 (fun x H1 => tCons (tVar 2) (tCons (tOp rCat (tVar 3) (tLst (tCons (tTup (tCons (tC (V.int 1)) (tCons (tVar 12) tNil))) tNil))) tNil)
                  [some (.ref a), some (.ref f), some (.ref al), some (.ref as_), some (.int pick), some (limV lim), none, none, none, none, some (.int 1), none, some (.int (z' : Int))] H1 fun xs H2 => rNewL (x :: xs) H2 Q) E0 := by
              refine ⟨_, _, .int _, rfl, Da.int, Da.int, by simp [dep], by simp [wid], fun H4 k4 => ?_⟩
              obtain ⟨_, ⟨_, hf2, hl12, vs2, hl22, ht2⟩, la2, ⟨us2, hus2, htu2⟩, _⟩ := id kn3
              have hus4 := k4.get (k3.get hus2 (by simp [s8])) (by simp)
              have hul2 := htu2.len
              walk_at "r"
              intro t H5 nt k5 htt
              walk_at "r"
              intro r0 H6 nr0 k6 hr0
              walk_at "r"
              intro r1 H7 nr1 k7 hr1
              walk_at "r"
              intro r2 H8 nr2 k8 hr2
              have kC : Keep [] H3 H8 := k4.trans (k5.trans (k6.trans (k7.trans k8)))
              have kC6 : Keep [] H3 H6 := k4.trans (k5.trans k6)
              have hr1l1 : r1 ≠ l1 := by
                have h := kC6.get fi3.2.2.1 (by simp)
                intro z; rw [z, h] at nr1; cases nr1
              have hr1l2 : r1 ≠ l2 := by
                obtain ⟨vs5, h5, _⟩ := fi3.2.2.2
                have h := kC6.get h5 (by simp)
                intro z; rw [z, h] at nr1; cases nr1
              have dr3 : Drw a dd ds H3 := kn3.dr.keep k3 (by simp [s2]) (by simp [s4])
              have hr1a : r1 ≠ a := by
                obtain ⟨j, hj, h1, h2⟩ := dr3.keep kC6 (by simp) (by simp)
                intro z; rw [z, h1] at nr1; cases nr1
              have hr1f : r1 ≠ f := by
                have h := kC6.get fi3.2.1 (by simp)
                intro z; rw [z, h] at nr1; cases nr1
              have fr1 : H r1 = none := ((kA.mono (by simp) : Keep [a, f, l2] H H2).trans ((k3.mono (by simp)).trans kC6.any)).free nr1 (by simp [hr1a, hr1f, hr1l2])
              refine q H8 r2 al r1 l1 l2 d (ss ++ [.cut z']) ((kA.mono (by simp)).trans ((k3.mono (by simp)).trans kC.any)) hr2 ⟨dr3.keep kC (by simp) (by simp), fi3.keep kC (by simp) (by simp) (by simp), ?_, ⟨_, k8.get hr1 (by simp), ?_⟩, ⟨s1, s2, s3, s4, s5, s6, hr1l1, hr1l2, s9, hr1a⟩⟩ ?_ (.inl rfl) (.inl rfl) (.inl rfl) (.inr fr1)
              · exact kC.get (k3.get la2 (by simp [s6])) (by simp)
              · exact ((htu2.keep k3).keep kC).snoc (by
                  have := (k6.trans (k7.trans k8)).2 _ _ htt
                  exact this)
              · simp; omega
            cases lim with
            | none =>
              simp only [limV] at fin ⊢
              walk_at "r"
              exact fin
            | some k =>
              simp only [limV] at fin ⊢
              walk_at "r"
              refine ite_N (by simp at ne; omega) ?_
              walk_at "r"
              exact fin
        · walk_at "r"
          obtain ⟨s1, s2, s3, s4, s5, s6, s7, s8, s9, s10⟩ := id se
          refine ite_dec (fun hp7 => ?_) (fun hp7 => ?_)
          · walk_at "r"
            refine ⟨f, dx, l1, l2, d, ss, lim, rfl, kn1.fi, by omega, fun e0 => ?_, fun ne H1 m1 m2 k1 n1 n2 fi1 => ?_⟩
            · subst e0
              simp only [limV]
              walk_at "r"
              refine ite_P (by simp) ?_
              walk_at "r"
              refine ⟨_, _, .int _, rfl, Da.int, Da.int, by simp [dep], by simp [wid], fun H3 k3 => ?_⟩
              walk_at "r"
              intro r H4 nr k4 hr4
              exact q H4 r al as_ l1 l2 d ss ((kH.mono (by simp)).trans (k3.any.trans k4.any)) hr4 (kn1.more (k3.trans k4)) (by omega) (.inl rfl) (.inl rfl) (.inl rfl) (.inl rfl)
            · have fin : sp_same 3 ([.int 1, .int 1] ++ []) H1 (fun x H1 => tCons (tCall (sp_applied stl) [] E0 (tCons (tVar 2) (tCons (tVar 3) tNil))) (tCons (tLst tNil) tNil)
                    [some (.ref a), some (.ref f), some (.ref al), some (.ref as_), some (.int pick), some (limV lim), none, none, none, none, some (.int 1), none, none] H1 fun xs H2 => rNewL (x :: xs) H2 Q) E0 := by
                refine ⟨_, _, .int _, rfl, Da.int, Da.int, by simp [dep], by simp [wid], fun H2 k2 => ?_⟩
                have hf1 := (dr.ins hf).1
                have hf2 := (dr.ins hf).2
                have hfa : al ≠ f := ne_of la hf (by intro z; cases z)
                have hfs : as_ ≠ f := ne_of hus hf (by intro z; cases z)
                walk_at "r"
                refine ⟨al, as_, d, us, ss, rfl, k2.get (k1.get la (by simp [hfa])) (by simp), k2.get (k1.get hus (by simp [hfs])) (by simp), (htu.keep k1).keep k2, by omega, fun r0 H3 nr0 k3 hr0 => ?_⟩
                walk_at "r"
                intro r1 H4 nr1 k4 hr1
                walk_at "r"
                intro r2 H5 nr2 k5 hr2
                have dr1 : Drw a dd ds H1 := dr.keep k1 (by simp [Ne.symm hf1]) (by simp [Ne.symm hf2])
                have fi2 := fi1.keep k2 (by simp) (by simp) (by simp)
                have fi3 := fi2.keep k3 (by simp) (by simp) (by simp)
                have dr2 := dr1.keep k2 (by simp) (by simp)
                have dr3 := dr2.keep k3 (by simp) (by simp)
                obtain ⟨j2, _, ha2, hd2⟩ := id dr2
                obtain ⟨j3, _, ha3, hd3⟩ := id dr3
                obtain ⟨_, _, g1, vs2, g2, _⟩ := id fi2
                obtain ⟨_, _, g3, vs3, g4, _⟩ := id fi3
                have hr0a : r0 ≠ a := by intro z; rw [z, ha2] at nr0; cases nr0
                have hr01 : r0 ≠ m1 := by intro z; rw [z, g1] at nr0; cases nr0
                have hr02 : r0 ≠ m2 := by intro z; rw [z, g2] at nr0; cases nr0
                have hr1a : r1 ≠ a := by intro z; rw [z, ha3] at nr1; cases nr1
                have hr11 : r1 ≠ m1 := by intro z; rw [z, g3] at nr1; cases nr1
                have hr12 : r1 ≠ m2 := by intro z; rw [z, g4] at nr1; cases nr1
                obtain ⟨j0, _, ha0, hd0⟩ := id dr
                have kC : Keep [] H1 H5 := k2.trans (k3.trans (k4.trans k5))
                have nf : ∀ m, H' m = none → m = l1 ∨ H m = none := fun m h => by
                  by_cases hm : m = a
                  · rw [hm, ha0] at h; cases h
                  · exact .inr (kH.free h (by simp [hm]))
                have nf2 : ∀ m, H' m = none → m = l2 ∨ H m = none := fun m h => by
                  by_cases hm : m = a
                  · rw [hm, ha0] at h; cases h
                  · exact .inr (kH.free h (by simp [hm]))
                have hr0f : r0 ≠ f := by intro z; rw [z, fi2.2.1] at nr0; cases nr0
                have hr1f : r1 ≠ f := by intro z; rw [z, fi3.2.1] at nr1; cases nr1
                have fr0 : H r0 = none := ((kH.mono (by simp) : Keep [a, f] H H').trans ((k1.mono (by simp)).trans k2.any)).free nr0 (by simp [hr0a, hr0f])
                have fr1 : H r1 = none := ((kH.mono (by simp) : Keep [a, f] H H').trans ((k1.mono (by simp)).trans (k2.trans k3).any)).free nr1 (by simp [hr1a, hr1f])
                refine q H5 r2 r0 r1 m1 m2 (applyS d ss) [] ((kH.mono (by simp)).trans ((k1.mono (by simp)).trans kC.any)) hr2 ⟨dr1.keep kC (by simp) (by simp), fi1.keep kC (by simp) (by simp) (by simp), (k4.trans k5).get hr0 (by simp), ⟨[], k5.get hr1 (by simp), Tups.nil⟩, ⟨?_, ?_, ?_, ?_, hr01, hr02, hr11, hr12, hr0a, hr1a⟩⟩ ?_ (nf _ n1) (nf2 _ n2) (.inr fr0) (.inr fr1)
                · intro z; rw [← z, ha0] at n1; cases n1
                · intro z; rw [← z, ha0] at n2; cases n2
                · intro z; rw [← z, hd0] at n1; cases n1
                · intro z; rw [← z, hd0] at n2; cases n2
                · have := applyS_len ss d
                  simp; omega
              cases lim with
              | none =>
                simp only [limV] at fin ⊢
                walk_at "r"
                exact fin
              | some k =>
                simp only [limV] at fin ⊢
                walk_at "r"
                refine ite_N (by simp at ne; omega) ?_
                walk_at "r"
                exact fin
          · walk_at "r"
            refine ⟨a, dd, ds, _, rfl, dr, by omega, fun z H1 z0 z1 k1 dr1 => ?_⟩
            have kn2 := kn1.next k1 dr1
            obtain ⟨z', rfl⟩ := Int.eq_ofNat_of_zero_le z0
            have hf3 := kn2.fi.2.1
            have kA : Keep [a] H H1 := kH.trans k1
            walk_at "r"
            refine ⟨f, dx, l1, l2, d, ss, z', rfl, kn2.fi, by omega, fun H2 m1 m2 k2 n1 n2 fi2 => ?_⟩
            walk_at "r"
            have hfa : al ≠ f := ne_of la hf (by intro z; cases z)
            have hfs : as_ ≠ f := ne_of hus hf (by intro z; cases z)
            have hf1 := (dr.ins hf).1
            have hf2 := (dr.ins hf).2
            have hus2 := k2.get (k1.get hus (by simp [s10])) (by simp [hfs])
            have la2 := k2.get (k1.get la (by simp [s9])) (by simp [hfa])
            walk_at "r"
            rw [cut_takeV]
            intro c H3 nc k3 hc
            walk_at "r"
            refine ⟨al, c, d, _, ss.take z', rfl, k3.get la2 (by simp), hc, (((htu.keep k1).keep k2).keep k3).take z', by rw [List.length_take]; omega, fun r0 H4 nr0 k4 hr0 => ?_⟩
            walk_at "r"
            intro r1 H5 nr1 k5 hr1
            walk_at "r"
            intro r2 H6 nr2 k6 hr2
            have dr2 : Drw a dd ds H2 := dr1.keep k2 (by simp [Ne.symm hf1]) (by simp [Ne.symm hf2])
            have fi3 := fi2.keep k3 (by simp) (by simp) (by simp)
            have fi4 := fi3.keep k4 (by simp) (by simp) (by simp)
            have dr3 := dr2.keep k3 (by simp) (by simp)
            have dr4 := dr3.keep k4 (by simp) (by simp)
            obtain ⟨j2, _, ha2, hd2⟩ := id dr3
            obtain ⟨j3, _, ha3, hd3⟩ := id dr4
            obtain ⟨_, _, g1, vs2, g2, _⟩ := id fi3
            obtain ⟨_, _, g3, vs3, g4, _⟩ := id fi4
            have hr0a : r0 ≠ a := by intro z; rw [z, ha2] at nr0; cases nr0
            have hr01 : r0 ≠ m1 := by intro z; rw [z, g1] at nr0; cases nr0
            have hr02 : r0 ≠ m2 := by intro z; rw [z, g2] at nr0; cases nr0
            have hr1a : r1 ≠ a := by intro z; rw [z, ha3] at nr1; cases nr1
            have hr11 : r1 ≠ m1 := by intro z; rw [z, g3] at nr1; cases nr1
            have hr12 : r1 ≠ m2 := by intro z; rw [z, g4] at nr1; cases nr1
            obtain ⟨j0, _, ha0, hd0⟩ := id dr1
            have kC : Keep [] H2 H6 := k3.trans (k4.trans (k5.trans k6))
            have nf : ∀ m, H1 m = none → H m = none := fun m h => by
              by_cases hm : m = a
              · rw [hm, ha0] at h; cases h
              · exact kA.free h (by simp [hm])
            have hr0f : r0 ≠ f := by intro z; rw [z, fi3.2.1] at nr0; cases nr0
            have hr1f : r1 ≠ f := by intro z; rw [z, fi4.2.1] at nr1; cases nr1
            have fr0 : H r0 = none := ((kA.mono (by simp) : Keep [a, f] H H1).trans ((k2.mono (by simp)).trans k3.any)).free nr0 (by simp [hr0a, hr0f])
            have fr1 : H r1 = none := ((kA.mono (by simp) : Keep [a, f] H H1).trans ((k2.mono (by simp)).trans (k3.trans k4).any)).free nr1 (by simp [hr1a, hr1f])
            refine q H6 r2 r0 r1 m1 m2 (applyS d (ss.take z')) [] ((kA.mono (by simp)).trans ((k2.mono (by simp)).trans kC.any)) hr2 ⟨dr2.keep kC (by simp) (by simp), fi2.keep kC (by simp) (by simp) (by simp), (k5.trans k6).get hr0 (by simp), ⟨[], k6.get hr1 (by simp), Tups.nil⟩, ⟨?_, ?_, ?_, ?_, hr01, hr02, hr11, hr12, hr0a, hr1a⟩⟩ ?_ (.inr (nf _ n1)) (.inr (nf _ n2)) (.inr fr0) (.inr fr1)
            · intro z; rw [← z, ha0] at n1; cases n1
            · intro z; rw [← z, ha0] at n2; cases n2
            · intro z; rw [← z, hd0] at n1; cases n1
            · intro z; rw [← z, hd0] at n2; cases n2
            · have := applyS_len (ss.take z') d
              rw [List.length_take] at this
              simp; omega
end My

set_option maxHeartbeats 8000000

namespace My
open PySem L2 W
variable {P : Program} {w : World} {K : PySem.W.Frag} {mg : Str → Option Value} {base : Heap} {A : Adr}
/-- two further files: nobody else's -/
structure Oth (C : Addr) (H : Hp) (a dd f al as_ l1 l2 o odx ol1 ol2 t tdx tl1 tl2 : Addr) : Prop where
  fo : FileAt C H o odx ol1 ol2 [] []
  ft : FileAt C H t tdx tl1 tl2 [1, 2] [.app 3]
  of : o ≠ f
  tf : t ≠ f
  a2 : a ≠ ol2
  d2 : dd ≠ ol2
  al2 : al ≠ ol2
  as2 : as_ ≠ ol2
  l12 : l1 ≠ ol2
  l22 : l2 ≠ ol2
  o1a : ol1 ≠ a
  o1l : ol1 ≠ l2
  t1a : tl1 ≠ a
  t2a : tl2 ≠ a
  t1l : tl1 ≠ l2
  t2l : tl2 ≠ l2
  t1o : tl1 ≠ ol2
  t2o : tl2 ≠ ol2
theorem Oth.more {C : Addr} {H H' : Hp} {a dd f al as_ l1 l2 o odx ol1 ol2 t tdx tl1 tl2 : Addr} (h : Oth C H a dd f al as_ l1 l2 o odx ol1 ol2 t tdx tl1 tl2) (k : Keep [] H H') : Oth C H' a dd f al as_ l1 l2 o odx ol1 ol2 t tdx tl1 tl2 :=
  { h with fo := h.fo.keep k (by simp) (by simp) (by simp), ft := h.ft.keep k (by simp) (by simp) (by simp) }
theorem Oth.next {C : Addr} {H H' : Hp} {a dd f al as_ l1 l2 o odx ol1 ol2 t tdx tl1 tl2 : Addr} {ds : List Int} (h : Oth C H a dd f al as_ l1 l2 o odx ol1 ol2 t tdx tl1 tl2) (dr : Drw a dd ds H) (k : Keep [a] H H') : Oth C H' a dd f al as_ l1 l2 o odx ol1 ol2 t tdx tl1 tl2 :=
  { h with fo := h.fo.keep k (by simp [(dr.ins h.fo.2.1).1]) (by simp [h.o1a]) (by simp [Ne.symm h.a2]), ft := h.ft.keep k (by simp [(dr.ins h.ft.2.1).1]) (by simp [h.t1a]) (by simp [h.t2a]) }
theorem FileAt.ne {C : Addr} {H : Hp} {f dx l1 l2 : Addr} {d : List Int} {ss : List Stp} (h : FileAt C H f dx l1 l2 d ss) {b : Addr} (e : H b = none) : b ≠ f ∧ b ≠ l1 ∧ b ≠ l2 := by
  obtain ⟨_, h0, h1, vs, h2, _⟩ := h
  exact ⟨Ne.symm (ne_of_none h0 e), Ne.symm (ne_of_none h1 e), Ne.symm (ne_of_none h2 e)⟩
theorem FileAt.kinds {C : Addr} {H : Hp} {f dx l1 l2 : Addr} {d : List Int} {ss : List Stp} (h : FileAt C H f dx l1 l2 d ss) {b : Addr} {xs : List V} (e : H b = some (.lst xs)) : b ≠ f := by
  obtain ⟨_, h0, h1, vs, h2, _⟩ := h
  exact ne_of e h0 (by intro z; cases z)
theorem Drw.fre {H : Hp} {a d b : Addr} {ds : List Int} (h : Drw a d ds H) (e : H b = none) : b ≠ a ∧ b ≠ d := by
  obtain ⟨i, hi, h1, h2⟩ := h
  exact ⟨Ne.symm (ne_of_none h1 e), Ne.symm (ne_of_none h2 e)⟩
theorem Know.fre {C : Addr} {H : Hp} {a dd f dx al as_ l1 l2 b : Addr} {ds d : List Int} {ss : List Stp} (h : Know C H a dd ds f dx al as_ l1 l2 d ss) (e : H b = none) : b ≠ a ∧ b ≠ dd ∧ b ≠ f ∧ b ≠ l1 ∧ b ≠ l2 ∧ b ≠ al ∧ b ≠ as_ := by
  obtain ⟨dr0, fi, la, ⟨us, h1, h2⟩, se⟩ := h
  exact ⟨(dr0.fre e).1, (dr0.fre e).2, (fi.ne e).1, (fi.ne e).2.1, (fi.ne e).2.2, Ne.symm (ne_of_none la e), Ne.symm (ne_of_none h1 e)⟩
theorem Know.keep1 {C : Addr} {H H' : Hp} {a dd f dx al as_ l1 l2 b : Addr} {ds d : List Int} {ss : List Stp} (h : Know C H a dd ds f dx al as_ l1 l2 d ss) (k : Keep [b] H H') (n : b ≠ a ∧ b ≠ dd ∧ b ≠ f ∧ b ≠ l1 ∧ b ≠ l2 ∧ b ≠ al ∧ b ≠ as_) : Know C H' a dd ds f dx al as_ l1 l2 d ss := by
  obtain ⟨dr0, fi, la, ⟨us, h1, h2⟩, se⟩ := h
  obtain ⟨n1, n2, n3, n4, n5, n6, n7⟩ := n
  exact ⟨dr0.keep k (by simp [Ne.symm n1]) (by simp [Ne.symm n2]), fi.keep k (by simp [Ne.symm n3]) (by simp [Ne.symm n4]) (by simp [Ne.symm n5]), k.get la (by simp [Ne.symm n6]), ⟨us, k.get h1 (by simp [Ne.symm n7]), h2.keep k⟩, se⟩
theorem Oth.deed {C : Addr} {H H' : Hp} {a dd f dx al as_ l1 l2 o odx ol1 ol2 t tdx tl1 tl2 al' as' l1' l2' : Addr} {ds d : List Int} {ss : List Stp} (ot : Oth C H a dd f al as_ l1 l2 o odx ol1 ol2 t tdx tl1 tl2) (kn : Know C H a dd ds f dx al as_ l1 l2 d ss) (k : Keep [a, f, l2] H H')
    (e1 : l1' = l1 ∨ H l1' = none) (e2 : l2' = l2 ∨ H l2' = none) (e3 : al' = al ∨ H al' = none) (e4 : as' = as_ ∨ H as' = none) : Oth C H' a dd f al' as' l1' l2' o odx ol1 ol2 t tdx tl1 tl2 := by
  obtain ⟨_, ho, ho1, vs, ho2, _⟩ := id ot.fo
  obtain ⟨_, ht, ht1, ws, ht2, _⟩ := id ot.ft
  obtain ⟨_, hf, hl1, us, hl2, _⟩ := id kn.fi
  have n1 : o ≠ a := (kn.dr.ins ho).1
  have n2 : t ≠ a := (kn.dr.ins ht).1
  have n3 : o ≠ l2 := ne_of ho hl2 (by intro z; cases z)
  have n4 : t ≠ l2 := ne_of ht hl2 (by intro z; cases z)
  have n5 : ol1 ≠ f := ne_of ho1 hf (by intro z; cases z)
  have n6 : ol2 ≠ f := ne_of ho2 hf (by intro z; cases z)
  have n7 : tl1 ≠ f := ne_of ht1 hf (by intro z; cases z)
  have n8 : tl2 ≠ f := ne_of ht2 hf (by intro z; cases z)
  have new : ∀ {x y z : Addr} {u : HO}, (x = y ∨ H x = none) → y ≠ z → H z = some u → x ≠ z := fun h n hz => by
    rcases h with rfl | h
    · exact n
    · exact Ne.symm (ne_of_none hz h)
  exact { fo := ot.fo.keep k (by simp [n1, ot.of, n3]) (by simp [ot.o1a, n5, ot.o1l]) (by simp [Ne.symm ot.a2, n6, Ne.symm ot.l22]),
          ft := ot.ft.keep k (by simp [n2, ot.tf, n4]) (by simp [ot.t1a, n7, ot.t1l]) (by simp [ot.t2a, n8, ot.t2l]),
          of := ot.of, tf := ot.tf, a2 := ot.a2, d2 := ot.d2, al2 := new e3 ot.al2 ho2, as2 := new e4 ot.as2 ho2, l12 := new e1 ot.l12 ho2, l22 := new e2 ot.l22 ho2,
          o1a := ot.o1a, o1l := Ne.symm (new e2 (Ne.symm ot.o1l) ho1), t1a := ot.t1a, t2a := ot.t2a, t1l := Ne.symm (new e2 (Ne.symm ot.t1l) ht1), t2l := Ne.symm (new e2 (Ne.symm ot.t2l) ht2), t1o := ot.t1o, t2o := ot.t2o }
def sp_law (K : PySem.W.Frag) : Sp := fun vs H Q _ => ∃ (s : Addr) (ns : List Int), vs = [.ref s] ∧ SqL K H s (ns.map V.int) ∧ ns.length ≤ 63 ∧ ∀ H', Q (.bl true) H'
theorem ok_law (e : Env K mg A) : FnOk P w K mg base CX0 7 A.f_law A.d_law ["script"] (sp_law K) := by
  have G__law_next := ok__law_next (P := P) (w := w) (base := base) e
  have G__law_draws := ok__law_draws (P := P) (w := w) (base := base) e
  have G__law_after := ok__law_after (P := P) (w := w) (base := base) e
  have G__law_same := ok__law_same (P := P) (w := w) (base := base) e 3
  have G__law_deed := ok__law_deed (P := P) (w := w) (base := base) e
  have G_File___init__ := ok_File___init__ (P := P) (w := w) (base := base) e
  have G_File_write := ok_File_write (P := P) (w := w) (base := base) e
  have G_File_flush := ok_File_flush (P := P) (w := w) (base := base) e
  have G_File_lose := ok_File_lose (P := P) (w := w) (base := base) e
  have G_File_content := ok_File_content (P := P) (w := w) (base := base) e
  have G_File_pending := ok_File_pending (P := P) (w := w) (base := base) e
  refine e.F_law.ok sc_law (fun vs H Q E h => ?_) (fun cdv AA outer s H vs Q E hr h => ?_)
  · obtain ⟨s, ns, rfl, _⟩ := h
    rfl
  · obtain ⟨s, ns, rfl, hS, hlen, q⟩ := h
    refine ⟨_, (pss_cons (ps_set (i := 1) sc_law.nd rfl (Or.inl rfl) (pe_lst (pa_cons (pe_call G__law_draws (hr.mono (by omega)) (by rfl) e.m__law_draws e.k__law_draws e.b__law_draws .nil pass0 (pa_cons (pv 0) pa_nil)) (pa_cons pe_int pa_nil))))
    (pss_cons (ps_set (i := 2) sc_law.nd rfl (Or.inl rfl) (pe_make0 e.M_File G_File___init__ (hr.mono (by omega)) (by rfl) e.m_File e.b_File___init__ .nil pass0))
    (pss_cons (ps_set (i := 3) sc_law.nd rfl (Or.inl rfl) (pe_lst pa_nil))
    (pss_cons (ps_set (i := 4) sc_law.nd rfl (Or.inl rfl) (pe_lst pa_nil))
    (pss_cons (ps_set (i := 5) sc_law.nd rfl (Or.inl rfl) (pe_make0 e.M_File G_File___init__ (hr.mono (by omega)) (by rfl) e.m_File e.b_File___init__ .nil pass0))
    (pss_cons (ps_set (i := 6) sc_law.nd rfl (Or.inl rfl) (pe_make0 e.M_File G_File___init__ (hr.mono (by omega)) (by rfl) e.m_File e.b_File___init__ .nil pass0))
    (pss_cons (ps_expr (pe_meth (pv 6) e.c_File e.h_File_write G_File_write (hr.mono (by omega)) e.b_File_write .nil pass0 (pa_cons (pe_lst (pa_cons pe_int (pa_cons pe_int pa_nil))) (pa_cons pe_non pa_nil))))
    (pss_cons (ps_expr (pe_meth (pv 6) e.c_File e.h_File_flush G_File_flush (hr.mono (by omega)) e.b_File_flush .nil pass0 (pa_cons pe_non pa_nil)))
    (pss_cons (ps_expr (pe_meth (pv 6) e.c_File e.h_File_write G_File_write (hr.mono (by omega)) e.b_File_write .nil pass0 (pa_cons (pe_lst (pa_cons pe_int pa_nil)) (pa_cons pe_non pa_nil))))
    (pss_cons (ps_for PassesOwn.never rfl (pi_range1 rfl e.n_range (pa_cons (pe_call G__law_next (hr.mono (by omega)) (by rfl) e.m__law_next e.k__law_next e.b__law_next .nil pass0 (pa_cons (pv 1) (pa_cons pe_int pa_nil))) pa_nil)) (pg_name (i := 7) sc_law.nd rfl (Or.inl rfl)) (Evl.pss_cut (ps_if (pt_cmpR op_eq (pe_call G__law_next (hr.mono (by omega)) (by rfl) e.m__law_next e.k__law_next e.b__law_next .nil pass0 (pa_cons (pv 1) (pa_cons pe_int pa_nil))) pe_int (nomark _)) (pss_cons (ps_expr (pe_meth (pv 5) e.c_File e.h_File_write G_File_write (hr.mono (by omega)) e.b_File_write .nil pass0 (pa_cons (pe_lst (pa_cons (pv 7) (pa_cons (pe_op op_add (pv 7) pe_int) (pa_cons (pe_op op_add (pv 7) pe_int) pa_nil)))) (pa_cons pe_non pa_nil))))
    (pss_cons (ps_if (PW.pt (pw_or (pt_not (pt_val (pe_call G__law_same (hr.mono (by omega)) (by rfl) e.m__law_same e.k__law_same e.b__law_same .nil pass0 (pa_cons (pe_meth0 (pv 5) e.c_File e.h_File_content G_File_content (hr.mono (by omega)) e.b_File_content .nil pass0) (pa_cons (pe_lst (pa_cons (pv 7) (pa_cons (pe_op op_add (pv 7) pe_int) (pa_cons (pe_op op_add (pv 7) pe_int) pa_nil)))) pa_nil))))) (pw_or1 (pt_not (pt_val (pe_call G__law_same (hr.mono (by omega)) (by rfl) e.m__law_same e.k__law_same e.b__law_same .nil pass0 (pa_cons (pe_meth0 (pv 5) e.c_File e.h_File_pending G_File_pending (hr.mono (by omega)) e.b_File_pending .nil pass0) (pa_cons pe_int pa_nil)))))))) (pss_one (ps_ret pe_bl)) pss_nil)
    (pss_cons (ps_set (i := 5) sc_law.nd rfl (Or.inl rfl) (pe_make0 e.M_File G_File___init__ (hr.mono (by omega)) (by rfl) e.m_File e.b_File___init__ .nil pass0))
    (pss_one (ps_if (PW.pt (pw_or (pt_cmpR (op_neD hr.units) (pe_meth0 (pv 5) e.c_File e.h_File_content G_File_content (hr.mono (by omega)) e.b_File_content .nil pass0) (pe_lst pa_nil) (nomark _)) (pw_or1 (pt_not (pt_val (pe_call G__law_same (hr.mono (by omega)) (by rfl) e.m__law_same e.k__law_same e.b__law_same .nil pass0 (pa_cons (pe_meth0 (pv 5) e.c_File e.h_File_pending G_File_pending (hr.mono (by omega)) e.b_File_pending .nil pass0) (pa_cons pe_int pa_nil)))))))) (pss_one (ps_ret pe_bl)) pss_nil))))) pss_nil)
    (pss_cons (ps_asg (pe_call G__law_deed (hr.mono (by omega)) (by rfl) e.m__law_deed e.k__law_deed e.b__law_deed .nil pass0 (pa_cons (pv 1) (pa_cons (pv 2) (pa_cons (pv 3) (pa_cons (pv 4) pa_nil))))) (pg_unl rfl (pgs_cons (pg_name (i := 8) sc_law.nd rfl (Or.inl rfl)) (pgs_cons (pg_name (i := 3) sc_law.nd rfl (Or.inl rfl)) (pgs_cons (pg_name (i := 4) sc_law.nd rfl (Or.inl rfl)) pgs_nil)))))
    (pss_cons (ps_if (PW.pt (pw_or (pt_not (pt_val (pv 8))) (pw_or1 (pt_not (pt_val (pe_call G__law_same (hr.mono (by omega)) (by rfl) e.m__law_same e.k__law_same e.b__law_same .nil pass0 (pa_cons (pe_meth0 (pv 2) e.c_File e.h_File_content G_File_content (hr.mono (by omega)) e.b_File_content .nil pass0) (pa_cons (pe_call G__law_after (hr.mono (by omega)) (by rfl) e.m__law_after e.k__law_after e.b__law_after .nil pass0 (pa_cons (pv 3) (pa_cons (pv 4) pa_nil))) pa_nil)))))))) (pss_one (ps_ret pe_bl)) pss_nil)
    (pss_cons (ps_if (pt_not (pt_val (pe_call G__law_same (hr.mono (by omega)) (by rfl) e.m__law_same e.k__law_same e.b__law_same .nil pass0 (pa_cons (pe_meth0 (pv 2) e.c_File e.h_File_pending G_File_pending (hr.mono (by omega)) e.b_File_pending .nil pass0) (pa_cons (pe_callB call_lenL (by rfl) e.n_len (by decide +kernel) (pa_cons (pv 4) pa_nil)) pa_nil))))) (pss_one (ps_ret pe_bl)) pss_nil)
    (pss_cons (ps_expr (pe_bm PySem.F.plainAttrs_list PySem.F.slot_list_append PySem.F.type_list_append mt_append (pe_meth0 (pv 2) e.c_File e.h_File_content G_File_content (hr.mono (by omega)) e.b_File_content .nil pass0) (pa_cons pe_int pa_nil)))
    (pss_one (ps_if (PW.pt (pw_and (pt_cmpR op_eq (pe_call G__law_next (hr.mono (by omega)) (by rfl) e.m__law_next e.k__law_next e.b__law_next .nil pass0 (pa_cons (pv 1) (pa_cons pe_int pa_nil))) pe_int (nomark _)) (pw_and1 (pt_not (pt_val (pe_call G__law_same (hr.mono (by omega)) (by rfl) e.m__law_same e.k__law_same e.b__law_same .nil pass0 (pa_cons (pe_meth0 (pv 2) e.c_File e.h_File_content G_File_content (hr.mono (by omega)) e.b_File_content .nil pass0) (pa_cons (pe_call G__law_after (hr.mono (by omega)) (by rfl) e.m__law_after e.k__law_after e.b__law_after .nil pass0 (pa_cons (pv 3) (pa_cons (pv 4) pa_nil))) pa_nil)))))))) (pss_one (ps_ret pe_bl)) pss_nil))))))))
    (pss_cons (ps_expr (pe_meth (pv 2) e.c_File e.h_File_lose G_File_lose (hr.mono (by omega)) e.b_File_lose .nil pass0 (pa_cons pe_int pa_nil)))
    (pss_cons (ps_if (PW.pt (pw_or (pt_not (pt_val (pe_call G__law_same (hr.mono (by omega)) (by rfl) e.m__law_same e.k__law_same e.b__law_same .nil pass0 (pa_cons (pe_meth0 (pv 6) e.c_File e.h_File_content G_File_content (hr.mono (by omega)) e.b_File_content .nil pass0) (pa_cons (pe_lst (pa_cons pe_int (pa_cons pe_int (pa_cons pe_int pa_nil)))) pa_nil))))) (pw_or1 (pt_not (pt_val (pe_call G__law_same (hr.mono (by omega)) (by rfl) e.m__law_same e.k__law_same e.b__law_same .nil pass0 (pa_cons (pe_meth0 (pv 6) e.c_File e.h_File_pending G_File_pending (hr.mono (by omega)) e.b_File_pending .nil pass0) (pa_cons pe_int pa_nil)))))))) (pss_one (ps_ret pe_bl)) pss_nil)
    (pss_one (ps_ret (pe_and (pe_call G__law_same (hr.mono (by omega)) (by rfl) e.m__law_same e.k__law_same e.b__law_same .nil pass0 (pa_cons (pe_meth0 (pv 2) e.c_File e.h_File_content G_File_content (hr.mono (by omega)) e.b_File_content .nil pass0) (pa_cons (pv 3) pa_nil))) (pe_one (pe_call G__law_same (hr.mono (by omega)) (by rfl) e.m__law_same e.k__law_same e.b__law_same .nil pass0 (pa_cons (pe_meth0 (pv 2) e.c_File e.h_File_pending G_File_pending (hr.mono (by omega)) e.b_File_pending .nil pass0) (pa_cons pe_int pa_nil))))))))))))))))))), ?_⟩
    refine enter (st_law _) ?_
    walk_at "i"
    walk_at "r"
    refine ⟨s, ns, rfl, hS, hlen, fun dd H1 ds nd k1 hd => ?_⟩
    walk_at "r"
    intro a H2 na k2 ha
    have dr2 : Drw a dd ds H2 := ⟨20, by omega, ha, k2.get hd (by simp)⟩
    walk_at "r"
    intro f dx H3 nf k3 hf
    refine ⟨f, dx, rfl, hf, fun H4 l1 l2 k4 n1 n2 fi => ⟨rfl, ?_⟩⟩
    have ff2 := dr2.fre nf
    have dr3 := dr2.keep k3 (by simp) (by simp)
    have f13 := dr3.fre n1
    have f23 := dr3.fre n2
    have dr4 := dr3.keep k4 (by simp [Ne.symm ff2.1]) (by simp [Ne.symm ff2.2])
    walk_at "r"
    intro al H5 nal k5 hal
    have fal := fi.ne nal
    have dal := dr4.fre nal
    have fi5 := fi.keep k5 (by simp) (by simp) (by simp)
    have dr5 := dr4.keep k5 (by simp) (by simp)
    walk_at "r"
    intro as_ H6 nas k6 has
    have fas := fi5.ne nas
    have das := dr5.fre nas
    have kn6 : Know A.C_File H6 a dd ds f dx al as_ l1 l2 [] [] := ⟨dr5.keep k6 (by simp) (by simp), fi5.keep k6 (by simp) (by simp) (by simp), k6.get hal (by simp), ⟨[], has, Tups.nil⟩, ⟨Ne.symm f13.1, Ne.symm f23.1, Ne.symm f13.2, Ne.symm f23.2, fal.2.1, fal.2.2, fas.2.1, fas.2.2, dal.1, das.1⟩⟩
    walk_at "r"
    intro o odx H7 no k7 ho
    refine ⟨o, odx, rfl, ho, fun H8 ol1 ol2 k8 on1 on2 fo => ⟨rfl, ?_⟩⟩
    walk_at "r"
    intro t tdx H9 nt k9 ht
    refine ⟨t, tdx, rfl, ht, fun H10 tl1 tl2 k10 tn1 tn2 ft => ⟨rfl, ?_⟩⟩
    have kH7 : Keep [] H6 H7 := k7
    have fi6 := kn6.fi
    have f1o := fi6.ne no
    have hO : o ≠ f := f1o.1
    have fi7 := fi6.keep k7 (by simp) (by simp) (by simp)
    have dr6 := kn6.dr
    have dr7 := dr6.keep k7 (by simp) (by simp)
    have e1 := fi7.ne on1
    have e2 := fi7.ne on2
    have d1 := dr7.fre on1
    have d2 := dr7.fre on2
    have d0 := dr6.fre no
    have hal6 := kn6.la
    obtain ⟨us6, hus6, htu6⟩ := kn6.st
    have al7 := k7.get hal6 (by simp)
    have as7 := k7.get hus6 (by simp)
    have alo2 : al ≠ ol2 := ne_of_none al7 on2
    have aso2 : as_ ≠ ol2 := ne_of_none as7 on2
    have oal : o ≠ al := Ne.symm (ne_of_none hal6 no)
    have oas : o ≠ as_ := Ne.symm (ne_of_none hus6 no)
    have kn8 : Know A.C_File H8 a dd ds f dx al as_ l1 l2 [] [] := ⟨dr7.keep k8 (by simp [Ne.symm d0.1]) (by simp [Ne.symm d0.2]), fi7.keep k8 (by simp [Ne.symm hO]) (by simp [Ne.symm f1o.2.1]) (by simp [Ne.symm f1o.2.2]), k8.get al7 (by simp [Ne.symm oal]), ⟨us6, k8.get as7 (by simp [Ne.symm oas]), (htu6.keep k7).keep k8⟩, kn6.se⟩
    have f1t := kn8.fi.ne nt
    have f2t := fo.ne nt
    have kn9 := kn8.more k9
    have fo9 := fo.keep k9 (by simp) (by simp) (by simp)
    have t1 := kn9.fi.ne tn1
    have t2 := kn9.fi.ne tn2
    have t1o := fo9.ne tn1
    have t2o := fo9.ne tn2
    have t1d := kn9.dr.fre tn1
    have t2d := kn9.dr.fre tn2
    have td := kn8.dr.fre nt
    have tal : t ≠ al := Ne.symm (ne_of_none kn8.la nt)
    have tas : t ≠ as_ := by
      obtain ⟨us8, hus8, _⟩ := kn8.st
      exact Ne.symm (ne_of_none hus8 nt)
    have kn10 : Know A.C_File H10 a dd ds f dx al as_ l1 l2 [] [] := by
      obtain ⟨us9, hus9, htu9⟩ := kn9.st
      exact ⟨kn9.dr.keep k10 (by simp [Ne.symm td.1]) (by simp [Ne.symm td.2]), kn9.fi.keep k10 (by simp [Ne.symm f1t.1]) (by simp [Ne.symm f1t.2.1]) (by simp [Ne.symm f1t.2.2]), k10.get kn9.la (by simp [Ne.symm tal]), ⟨us9, k10.get hus9 (by simp [Ne.symm tas]), htu9.keep k10⟩, kn9.se⟩
    have fo10 := fo9.keep k10 (by simp [Ne.symm f2t.1]) (by simp [Ne.symm f2t.2.1]) (by simp [Ne.symm f2t.2.2])
    have hw := @no_write
    have hsh := @no_shorten
    have hfl := @no_flush
    have hlo := @no_lose'
    have hco := @no_content
    have hpe := @no_pending
    have ht10 := ft.2.1
    walk_at "r"
    intro p H11 np k11 hp
    walk_at "r"
    have kn11 := kn10.more k11
    have fo11 := fo10.keep k11 (by simp) (by simp) (by simp)
    have ft11 := ft.keep k11 (by simp) (by simp) (by simp)
    have tl2k := kn9.fre tn2
    have tk := kn8.fre nt
    refine ⟨t, tdx, tl1, tl2, p, [], [1, 2], [], none, rfl, ft11, hp, by simp, fun H12 k12 ft12 => ?_⟩
    have kn12 := kn11.keep1 k12 tl2k
    have fo12 := fo11.keep k12 (by simp [Ne.symm t2o.1]) (by simp [Ne.symm t2o.2.1]) (by simp [Ne.symm t2o.2.2])
    have ht12 := ft12.2.1
    walk_at "r"
    refine ⟨t, tdx, tl1, tl2, [], [.app 1, .app 2], none, rfl, ft12, by simp, (fun z => by cases z), fun _ H13 m1 m2 k13 mn1 mn2 ft13 => ?_⟩
    have kn13 := kn12.keep1 k13 tk
    have fo13 := fo12.keep k13 (by simp [Ne.symm f2t.1]) (by simp [Ne.symm f2t.2.1]) (by simp [Ne.symm f2t.2.2])
    have ht13 := ft13.2.1
    walk_at "r"
    intro p2 H14 np2 k14 hp2
    walk_at "r"
    have kn14 := kn13.more k14
    have fo14 := fo13.keep k14 (by simp) (by simp) (by simp)
    have ft14 := ft13.keep k14 (by simp) (by simp) (by simp)
    have m1k := kn12.fre mn1
    have m2k := kn12.fre mn2
    have m1o := fo12.ne mn1
    have m2o := fo12.ne mn2
    refine ⟨t, tdx, m1, m2, p2, [1, 2], [3], [], none, rfl, ft14, hp2, by simp, fun H15 k15 ft15 => ?_⟩
    have kn15 := kn14.keep1 k15 m2k
    have fo15 := fo14.keep k15 (by simp [Ne.symm m2o.1]) (by simp [Ne.symm m2o.2.1]) (by simp [Ne.symm m2o.2.2])
    have ot15 : Oth A.C_File H15 a dd f al as_ l1 l2 o odx ol1 ol2 t tdx m1 m2 :=
      { fo := fo15, ft := ft15, of := hO, tf := f1t.1, a2 := Ne.symm d2.1, d2 := Ne.symm d2.2, al2 := alo2, as2 := aso2, l12 := Ne.symm e2.2.1, l22 := Ne.symm e2.2.2, o1a := d1.1, o1l := e1.2.2,
        t1a := m1k.1, t2a := m2k.1, t1l := m1k.2.2.2.2.1, t2l := m2k.2.2.2.2.1, t1o := m1o.2.2, t2o := m2o.2.2 }
    walk_at "r"
    refine ⟨a, dd, ds, 31, rfl, kn15.dr, by omega, fun n H16 n0 n31 k16 dr16 => ?_⟩
    have kn16 := kn15.next k16 dr16
    have ot16 := ot15.next kn15.dr k16
    clear ot15 fo15 kn15 ft15 ft14 fo14 kn14 ft13 fo13 kn13 ft12 fo12 kn12 ft11 fo11 kn11 kn10 fo10 fo9 kn9 kn8
    walk_at "r"
    refine forR1 (by omega) (by omega) (fun i σ H' => ∃ (al as_ l1 l2 o odx ol1 ol2 tl1 tl2 : Addr) (d : List Int) (ss : List Stp) (v7 v8 : Option V),
      σ = [some (.ref s), some (.ref a), some (.ref f), some (.ref al), some (.ref as_), some (.ref o), some (.ref t), v7, v8] ∧ Know A.C_File H' a dd ds f dx al as_ l1 l2 d ss ∧
      Oth A.C_File H' a dd f al as_ l1 l2 o odx ol1 ol2 t tdx tl1 tl2 ∧ d.length + ss.length ≤ 60 * i)
      ⟨al, as_, l1, l2, o, odx, ol1, ol2, m1, m2, [], [], _, _, rfl, kn16, ot16, by simp⟩ ?_ ?_
    · rintro i σ H' hi ⟨al, as_, l1, l2, o, odx, ol1, ol2, tl1, tl2, d, ss, v7, v8, rfl, kn, ot, hl⟩
      walk_at "r"
      refine s_cut (fun σ' H'' => ∃ (o odx ol1 ol2 : Addr), σ' = [some (.ref s), some (.ref a), some (.ref f), some (.ref al), some (.ref as_), some (.ref o), some (.ref t), some (.int (i : Int)), v8] ∧ Know A.C_File H'' a dd ds f dx al as_ l1 l2 d ss ∧
        Oth A.C_File H'' a dd f al as_ l1 l2 o odx ol1 ol2 t tdx tl1 tl2) ?_ ?_
      · walk_at "r"
        refine ⟨a, dd, ds, 6, rfl, kn.dr, by omega, fun x H1 x0 x1 k1 dr1 => ?_⟩
        have kn1 := kn.next k1 dr1
        have ot1 := ot.next kn.dr k1
        have ho1 := ot1.fo.2.1
        walk_at "r"
        refine ite_dec (fun hx => ?_) (fun hx => ?_)
        · walk_at "r"
          intro p H2 np k2 hp
          walk_at "r"
          have kn2 := kn1.more k2
          have ot2 := ot1.more k2
          refine ⟨o, odx, ol1, ol2, p, [], [(i : Int), i + 1, i + 2], [], none, rfl, ot2.fo, hp, by simp, fun H3 k3 fo3 => ?_⟩
          have ol2f : ol2 ≠ f := by
            obtain ⟨_, _, _, vs, h2, _⟩ := ot2.fo
            exact kn2.fi.kinds h2
          have tol2 : t ≠ ol2 := by
            obtain ⟨_, _, _, vs, h2, _⟩ := ot2.fo
            exact ne_of ot2.ft.2.1 h2 (by intro z; cases z)
          have kn3 := kn2.keep1 k3 ⟨Ne.symm ot.a2, Ne.symm ot.d2, ol2f, Ne.symm ot.l12, Ne.symm ot.l22, Ne.symm ot.al2, Ne.symm ot.as2⟩
          have ft3 := ot2.ft.keep k3 (by simp [tol2]) (by simp [ot.t1o]) (by simp [ot.t2o])
          have ho3 := fo3.2.1
          walk_at "r"
          refine ⟨o, odx, ol1, ol2, [], _, rfl, fo3, by simp [took], fun r H4 nr k4 hr => ?_⟩
          walk_at "r"
          intro r2 H5 nr2 k5 hr2
          walk_at "r"
          refine ⟨_, _, .list ([(i : Int), i + 1, i + 2].map .int), rfl, Da.lst (k5.get hr (by simp)) (DaL.ints [(i : Int), i + 1, i + 2]), Da.lst hr2 (DaL.ints [(i : Int), i + 1, i + 2]), by simp only [dep, depL_ints]; omega, by simp [wid, widL], fun H6 k6 => ?_⟩
          have fo6 := fo3.keep (k4.trans (k5.trans k6)) (by simp) (by simp) (by simp)
          have ho6 := fo6.2.1
          walk_at "r"
          refine ⟨o, odx, ol1, ol2, [], _, rfl, fo6, ?_⟩
          walk_at "r"
          refine ⟨_, _, .int 3, rfl, (show Da H6 (.int 3) (.int 3) from Da.int), Da.int, by decide, by decide, fun H7 k7 => ?_⟩
          have kC : Keep [] H3 H7 := k4.trans (k5.trans (k6.trans k7))
          have kn7 := kn3.more kC
          have ft7 := ft3.keep kC (by simp) (by simp) (by simp)
          clear hr2 hr hp fo3 fo6
          walk_at "r"
          intro o2 odx2 H8 no k8 ho
          have fo2 := kn7.fre no
          have ft2 := ft7.ne no
          have kn8 := kn7.more k8
          have ft8 := ft7.keep k8 (by simp) (by simp) (by simp)
          refine ⟨o2, odx2, rfl, ho, fun H9 m1 m2 k9 n1 n2 fo9 => ⟨rfl, ?_⟩⟩
          have f1 := kn8.fre n1
          have f2 := kn8.fre n2
          have g1 := ft8.ne n1
          have g2 := ft8.ne n2
          have kn9 := kn8.keep1 k9 fo2
          have ft9 := ft8.keep k9 (by simp [Ne.symm ft2.1]) (by simp [Ne.symm ft2.2.1]) (by simp [Ne.symm ft2.2.2])
          have ho9 := fo9.2.1
          walk_at "r"
          refine ⟨o2, odx2, m1, m2, [], [], rfl, fo9, by simp, fun r3 H10 nr3 k10 hr3 => ?_⟩
          walk_at "r"
          intro r4 H11 nr4 k11 hr4
          refine w_neD (.list (([] : List Int).map .int)) (Da.lst (k11.get hr3 (by simp)) (DaL.ints [])) (Da.lst hr4 (DaL.ints [])) (shp_ints []) ?_
          have fo11 := fo9.keep (k10.trans k11) (by simp) (by simp) (by simp)
          have ho11 := fo11.2.1
          walk_at "r"
          refine ⟨o2, odx2, m1, m2, [], [], rfl, fo11, ?_⟩
          walk_at "r"
          refine ⟨_, _, .int 0, rfl, (show Da H11 (.int 0) (.int 0) from Da.int), Da.int, by decide, by decide, fun H12 k12 => ?_⟩
          have kD : Keep [] H9 H12 := k10.trans (k11.trans k12)
          walk_at "r"
          exact ⟨o2, odx2, m1, m2, rfl, kn9.more kD, { fo := fo9.keep kD (by simp) (by simp) (by simp), ft := ft9.keep kD (by simp) (by simp) (by simp), of := fo2.2.2.1, tf := ot.tf, a2 := Ne.symm f2.1, d2 := Ne.symm f2.2.1, al2 := Ne.symm f2.2.2.2.2.2.1, as2 := Ne.symm f2.2.2.2.2.2.2, l12 := Ne.symm f2.2.2.2.1, l22 := Ne.symm f2.2.2.2.2.1, o1a := f1.1, o1l := f1.2.2.2.2.1, t1a := ot.t1a, t2a := ot.t2a, t1l := ot.t1l, t2l := ot.t2l, t1o := Ne.symm g2.2.1, t2o := Ne.symm g2.2.2 }⟩
        · walk_at "r"
          exact ⟨o, odx, ol1, ol2, rfl, kn1, ot1⟩
      · clear kn ot
        rintro σ' H1 ⟨o, odx, ol1, ol2, rfl, kn, ot⟩
        walk_at "r"
        refine ⟨a, dd, f, dx, al, as_, l1, l2, ds, d, ss, rfl, kn, by omega, fun H2 r al' as' l1' l2' d' ss' k2 hr kn2 hl2 fl1 fl2 fal fas => ?_⟩
        have ot2 := ot.deed kn k2 fl1 fl2 fal fas
        obtain ⟨us2, hus2, htu2⟩ := kn2.st
        have hul2 := htu2.len
        have hf2 := kn2.fi.2.1
        clear kn ot
        walk_at "r"
        refine ⟨f, dx, l1', l2', d', ss', rfl, kn2.fi, by omega, fun p H3 np k3 hp => ?_⟩
        walk_at "r"
        have kn3 := kn2.more k3
        refine ⟨al', as', d', us2, ss', rfl, kn3.la, k3.get hus2 (by simp), htu2.keep k3, by omega, fun p2 H4 np2 k4 hp2 => ?_⟩
        have hal := applyS_len ss' d'
        have kn4 := kn3.more k4
        walk_at "r"
        refine ⟨_, _, .list ((applyS d' ss').map .int), rfl, Da.lst (k4.get hp (by simp)) (DaL.ints _), Da.lst hp2 (DaL.ints _), by simp only [dep, depL_ints]; omega, by simp [wid, widL_ints]; omega, fun H5 k5 => ?_⟩
        have kn5 := kn4.more k5
        have hf5 := kn5.fi.2.1
        have hus5 := (k3.trans (k4.trans k5)).get hus2 (by simp)
        walk_at "r"
        refine ⟨f, dx, l1', l2', d', ss', rfl, kn5.fi, ?_⟩
        walk_at "r"
        rw [hul2]
        refine ⟨_, _, .int _, rfl, Da.int, Da.int, by simp [dep], by simp [wid], fun H6 k6 => ?_⟩
        have kn6 := kn5.more k6
        have hf6 := kn6.fi.2.1
        walk_at "r"
        refine ⟨f, dx, l1', l2', d', ss', rfl, kn6.fi, by omega, fun p3 H7 np3 k7 hp3 => ?_⟩
        have kn7 := kn6.more k7
        have kC : Keep [] H2 H7 := k3.trans (k4.trans (k5.trans (k6.trans k7)))
        have ot7 := ot2.more kC
        have fp3 := kn6.fre np3
        have gp3 := (ot2.more (k3.trans (k4.trans (k5.trans k6)))).fo.ne np3
        have ep3 := (ot2.more (k3.trans (k4.trans (k5.trans k6)))).ft.ne np3
        walk_at "r"
        intro H8 k8 h8
        have kn8 := kn7.keep1 k8 fp3
        have ot8 : Oth A.C_File H8 a dd f al' as' l1' l2' o odx ol1 ol2 t tdx tl1 tl2 := { ot7 with fo := ot7.fo.keep k8 (by simp [Ne.symm gp3.1]) (by simp [Ne.symm gp3.2.1]) (by simp [Ne.symm gp3.2.2]), ft := ot7.ft.keep k8 (by simp [Ne.symm ep3.1]) (by simp [Ne.symm ep3.2.1]) (by simp [Ne.symm ep3.2.2]) }
        clear kn7 kn6 kn5 kn4 kn3 ot7 ot2
        walk_at "r"
        refine ⟨a, dd, ds, 4, rfl, kn8.dr, by omega, fun x H9 x0 x1 k9 dr9 => ?_⟩
        have kn9 := kn8.next k9 dr9
        have ot9 := ot8.next kn8.dr k9
        walk_at "r"
        refine ite_dec (fun hx => ?_) (fun hx => ?_)
        · have hf9 := kn9.fi.2.1
          walk_at "r"
          refine ⟨f, dx, l1', l2', d', ss', rfl, kn9.fi, by omega, fun p H10 np k10 hp => ?_⟩
          walk_at "r"
          have kn10 := kn9.more k10
          obtain ⟨us9, hus9, htu9⟩ := kn10.st
          refine ⟨al', as', d', us9, ss', rfl, kn10.la, hus9, htu9, by omega, fun p2 H11 np2 k11 hp2 => ?_⟩
          walk_at "r"
          refine ⟨_, _, .list ((applyS d' ss').map .int), rfl, Da.lst (k11.get hp (by simp)) (DaL.ints _), Da.lst hp2 (DaL.ints _), by simp only [dep, depL_ints]; omega, by simp [wid, widL_ints]; omega, fun H12 k12 => ?_⟩
          walk_at "r"
          exact ⟨al', as', l1', l2', o, odx, ol1, ol2, tl1, tl2, d', ss', _, _, rfl, kn10.more (k11.trans k12), ot9.more (k10.trans (k11.trans k12)), by omega⟩
        · walk_at "r"
          exact ⟨al', as', l1', l2', o, odx, ol1, ol2, tl1, tl2, d', ss', _, _, rfl, kn9, ot9, by omega⟩
    · rintro σ H' ⟨al, as_, l1, l2, o, odx, ol1, ol2, tl1, tl2, d, ss, v7, v8, rfl, kn, ot, hl⟩
      have hf' := kn.fi.2.1
      walk_at "r"
      refine ⟨f, dx, l1, l2, d, ss, 0, rfl, kn.fi, by omega, fun H1 m1 m2 k1 n1 n2 fi1 => ?_⟩
      have hlf : al ≠ f := kn.fi.kinds kn.la
      have hla := k1.get kn.la (by simp [hlf])
      have hft := ot.ft
      have htl := hft.2.2.2
      have t1f : tl1 ≠ f := kn.fi.kinds hft.2.2.1
      have t2f : tl2 ≠ f := by
        obtain ⟨vs, h, _⟩ := htl
        exact kn.fi.kinds h
      have ft1 := hft.keep k1 (by simp [ot.tf]) (by simp [t1f]) (by simp [t2f])
      have ht1 := ft1.2.1
      walk_at "r"
      refine ⟨t, tdx, tl1, tl2, [1, 2], [.app 3], rfl, ft1, by simp, fun p H2 np k2 hp => ?_⟩
      walk_at "r"
      intro p2 H3 np2 k3 hp2
      walk_at "r"
      refine ⟨_, _, .list ([1, 2, 3].map .int), rfl, Da.lst (k3.get hp (by simp)) (DaL.ints [1, 2, 3]), Da.lst hp2 (DaL.ints [1, 2, 3]), by decide, by decide, fun H4 k4 => ?_⟩
      have ft4 := ft1.keep (k2.trans (k3.trans k4)) (by simp) (by simp) (by simp)
      have ht4 := ft4.2.1
      walk_at "r"
      refine ⟨t, tdx, tl1, tl2, [1, 2], [.app 3], rfl, ft4, ?_⟩
      walk_at "r"
      refine ⟨_, _, .int 1, rfl, Da.int, Da.int, by decide, by decide, fun H5 k5 => ?_⟩
      have fi5 := fi1.keep (k2.trans (k3.trans (k4.trans k5))) (by simp) (by simp) (by simp)
      have hf5 := fi5.2.1
      have la5 := (k2.trans (k3.trans (k4.trans k5))).get hla (by simp)
      walk_at "r"
      have hal := applyS_len ss d
      refine ⟨f, dx, m1, m2, _, [], rfl, fi5, by simp [applyS]; omega, fun p3 H6 np3 k6 hp3 => ?_⟩
      walk_at "r"
      have hpl : (d.map PyData.int).length ≤ 16777216 := by simp; omega
      refine ⟨_, _, .list (d.map .int), rfl, Da.lst hp3 (DaL.ints _), Da.lst (k6.get la5 (by simp)) (DaL.ints _), by simp [dep, depL_ints], by simp [wid, widL_ints]; omega, fun H7 k7 => ?_⟩
      have fi7 := fi5.keep (k6.trans k7) (by simp) (by simp) (by simp)
      have hf7 := fi7.2.1
      walk_at "r"
      refine ⟨f, dx, m1, m2, _, [], rfl, fi7, ?_⟩
      walk_at "r"
      refine ⟨_, _, .int 0, rfl, Da.int, Da.int, by decide, by decide, fun H8 k8 => ?_⟩
      exact q _
end My

set_option maxHeartbeats 8000000
namespace My
open PySem L2 W
theorem all_mk {K : PySem.W.Frag} {h : Heap} {mg : Str → Option Value} {fa : Addr} (X : K.In h) (G : h.Ns mainGlobals mg) (hfa : mg "law" = some (.ref fa))
    {C_File : Addr}
    {od0 an0 : Option Addr} {sl0 : Array (Option Value)} {oc0 kV0 dc0 pm0 cd0 ct0 : Value} {f0 : Addr}
    {od1 an1 : Option Addr} {sl1 : Array (Option Value)} {oc1 kV1 dc1 pm1 cd1 ct1 : Value} {f1 : Addr}
    {od2 an2 : Option Addr} {sl2 : Array (Option Value)} {oc2 kV2 dc2 pm2 cd2 ct2 : Value} {f2 : Addr}
    {od3 an3 : Option Addr} {sl3 : Array (Option Value)} {oc3 kV3 dc3 pm3 cd3 ct3 : Value} {f3 : Addr}
    {od4 an4 : Option Addr} {sl4 : Array (Option Value)} {oc4 kV4 dc4 pm4 cd4 ct4 : Value} {f4 : Addr}
    {od5 an5 : Option Addr} {sl5 : Array (Option Value)} {oc5 kV5 dc5 pm5 cd5 ct5 : Value} {f5 : Addr}
    {od6 an6 : Option Addr} {sl6 : Array (Option Value)} {oc6 kV6 dc6 pm6 cd6 ct6 : Value} {f6 : Addr}
    {od7 an7 : Option Addr} {sl7 : Array (Option Value)} {oc7 kV7 dc7 pm7 cd7 ct7 : Value} {f7 : Addr}
    {od8 an8 : Option Addr} {sl8 : Array (Option Value)} {oc8 kV8 dc8 pm8 cd8 ct8 : Value} {f8 : Addr}
    {od9 an9 : Option Addr} {sl9 : Array (Option Value)} {oc9 kV9 dc9 pm9 cd9 ct9 : Value} {f9 : Addr}
    {od10 an10 : Option Addr} {sl10 : Array (Option Value)} {oc10 kV10 dc10 pm10 cd10 ct10 : Value} {f10 : Addr}
    {od11 an11 : Option Addr} {sl11 : Array (Option Value)} {oc11 kV11 dc11 pm11 cd11 ct11 : Value} {f11 : Addr}
    {od12 an12 : Option Addr} {sl12 : Array (Option Value)} {oc12 kV12 dc12 pm12 cd12 ct12 : Value} {f12 : Addr}
    {od13 an13 : Option Addr} {sl13 : Array (Option Value)} {oc13 kV13 dc13 pm13 cd13 ct13 : Value} {f13 : Addr}
    {od14 an14 : Option Addr} {sl14 : Array (Option Value)} {oc14 kV14 dc14 pm14 cd14 ct14 : Value} {f14 : Addr}
    {od15 an15 : Option Addr} {sl15 : Array (Option Value)} {oc15 kV15 dc15 pm15 cd15 ct15 : Value} {f15 : Addr}
    {od16 an16 : Option Addr} {sl16 : Array (Option Value)} {oc16 kV16 dc16 pm16 cd16 ct16 : Value} {f16 : Addr}
    (aC_File : PySem.W.nsIn K mainGlobals "File" = some (some (.ref C_File)))
    (a0 : PySem.W.nsIn K mainGlobals "_applied" = some (some (.ref f0)))
    (l0 : K.lookup f0 = some ⟨oc0, od0, .func (PySem.W.fnOf "_applied" "_applied" (defArgs s__applied) (defBody s__applied) (defScope s__applied) .none kV0 dc0 pm0 an0 cd0 ct0), sl0⟩)
    (c0 : PySem.W.codeIn K cd0 "_applied" = true)
    (k0 : PySem.W.keepIn K (.ref f0) = true)
    (a1 : PySem.W.findIn K (.ref C_File) "__init__" = some (some (.ref f1)))
    (i1 : PySem.W.isFn K (.ref f1) = true)
    (l1 : K.lookup f1 = some ⟨oc1, od1, .func (PySem.W.fnOf "__init__" "File.__init__" (defArgs s_File___init__) (defBody s_File___init__) (defScope s_File___init__) .none kV1 dc1 pm1 an1 cd1 ct1), sl1⟩)
    (c1 : PySem.W.codeIn K cd1 "File.__init__" = true)
    (k1 : PySem.W.keepIn K (.ref f1) = true)
    (a2 : PySem.W.findIn K (.ref C_File) "write" = some (some (.ref f2)))
    (i2 : PySem.W.isFn K (.ref f2) = true)
    (l2 : K.lookup f2 = some ⟨oc2, od2, .func (PySem.W.fnOf "write" "File.write" (defArgs s_File_write) (defBody s_File_write) (defScope s_File_write) .none kV2 dc2 pm2 an2 cd2 ct2), sl2⟩)
    (c2 : PySem.W.codeIn K cd2 "File.write" = true)
    (k2 : PySem.W.keepIn K (.ref f2) = true)
    (a3 : PySem.W.findIn K (.ref C_File) "shorten" = some (some (.ref f3)))
    (i3 : PySem.W.isFn K (.ref f3) = true)
    (l3 : K.lookup f3 = some ⟨oc3, od3, .func (PySem.W.fnOf "shorten" "File.shorten" (defArgs s_File_shorten) (defBody s_File_shorten) (defScope s_File_shorten) .none kV3 dc3 pm3 an3 cd3 ct3), sl3⟩)
    (c3 : PySem.W.codeIn K cd3 "File.shorten" = true)
    (k3 : PySem.W.keepIn K (.ref f3) = true)
    (a4 : PySem.W.findIn K (.ref C_File) "flush" = some (some (.ref f4)))
    (i4 : PySem.W.isFn K (.ref f4) = true)
    (l4 : K.lookup f4 = some ⟨oc4, od4, .func (PySem.W.fnOf "flush" "File.flush" (defArgs s_File_flush) (defBody s_File_flush) (defScope s_File_flush) .none kV4 dc4 pm4 an4 cd4 ct4), sl4⟩)
    (c4 : PySem.W.codeIn K cd4 "File.flush" = true)
    (k4 : PySem.W.keepIn K (.ref f4) = true)
    (a5 : PySem.W.findIn K (.ref C_File) "content" = some (some (.ref f5)))
    (i5 : PySem.W.isFn K (.ref f5) = true)
    (l5 : K.lookup f5 = some ⟨oc5, od5, .func (PySem.W.fnOf "content" "File.content" (defArgs s_File_content) (defBody s_File_content) (defScope s_File_content) .none kV5 dc5 pm5 an5 cd5 ct5), sl5⟩)
    (c5 : PySem.W.codeIn K cd5 "File.content" = true)
    (k5 : PySem.W.keepIn K (.ref f5) = true)
    (a6 : PySem.W.findIn K (.ref C_File) "pending" = some (some (.ref f6)))
    (i6 : PySem.W.isFn K (.ref f6) = true)
    (l6 : K.lookup f6 = some ⟨oc6, od6, .func (PySem.W.fnOf "pending" "File.pending" (defArgs s_File_pending) (defBody s_File_pending) (defScope s_File_pending) .none kV6 dc6 pm6 an6 cd6 ct6), sl6⟩)
    (c6 : PySem.W.codeIn K cd6 "File.pending" = true)
    (k6 : PySem.W.keepIn K (.ref f6) = true)
    (a7 : PySem.W.findIn K (.ref C_File) "lose" = some (some (.ref f7)))
    (i7 : PySem.W.isFn K (.ref f7) = true)
    (l7 : K.lookup f7 = some ⟨oc7, od7, .func (PySem.W.fnOf "lose" "File.lose" (defArgs s_File_lose) (defBody s_File_lose) (defScope s_File_lose) .none kV7 dc7 pm7 an7 cd7 ct7), sl7⟩)
    (c7 : PySem.W.codeIn K cd7 "File.lose" = true)
    (k7 : PySem.W.keepIn K (.ref f7) = true)
    (a8 : PySem.W.nsIn K mainGlobals "_law_mix" = some (some (.ref f8)))
    (l8 : K.lookup f8 = some ⟨oc8, od8, .func (PySem.W.fnOf "_law_mix" "_law_mix" (defArgs s__law_mix) (defBody s__law_mix) (defScope s__law_mix) .none kV8 dc8 pm8 an8 cd8 ct8), sl8⟩)
    (c8 : PySem.W.codeIn K cd8 "_law_mix" = true)
    (k8 : PySem.W.keepIn K (.ref f8) = true)
    (a9 : PySem.W.nsIn K mainGlobals "_law_draws" = some (some (.ref f9)))
    (l9 : K.lookup f9 = some ⟨oc9, od9, .func (PySem.W.fnOf "_law_draws" "_law_draws" (defArgs s__law_draws) (defBody s__law_draws) (defScope s__law_draws) .none kV9 dc9 pm9 an9 cd9 ct9), sl9⟩)
    (c9 : PySem.W.codeIn K cd9 "_law_draws" = true)
    (k9 : PySem.W.keepIn K (.ref f9) = true)
    (a10 : PySem.W.nsIn K mainGlobals "_law_at" = some (some (.ref f10)))
    (l10 : K.lookup f10 = some ⟨oc10, od10, .func (PySem.W.fnOf "_law_at" "_law_at" (defArgs s__law_at) (defBody s__law_at) (defScope s__law_at) .none kV10 dc10 pm10 an10 cd10 ct10), sl10⟩)
    (c10 : PySem.W.codeIn K cd10 "_law_at" = true)
    (k10 : PySem.W.keepIn K (.ref f10) = true)
    (a11 : PySem.W.nsIn K mainGlobals "_law_is_integer" = some (some (.ref f11)))
    (l11 : K.lookup f11 = some ⟨oc11, od11, .func (PySem.W.fnOf "_law_is_integer" "_law_is_integer" (defArgs s__law_is_integer) (defBody s__law_is_integer) (defScope s__law_is_integer) .none kV11 dc11 pm11 an11 cd11 ct11), sl11⟩)
    (c11 : PySem.W.codeIn K cd11 "_law_is_integer" = true)
    (k11 : PySem.W.keepIn K (.ref f11) = true)
    (a12 : PySem.W.nsIn K mainGlobals "_law_same" = some (some (.ref f12)))
    (l12 : K.lookup f12 = some ⟨oc12, od12, .func (PySem.W.fnOf "_law_same" "_law_same" (defArgs s__law_same) (defBody s__law_same) (defScope s__law_same) .none kV12 dc12 pm12 an12 cd12 ct12), sl12⟩)
    (c12 : PySem.W.codeIn K cd12 "_law_same" = true)
    (k12 : PySem.W.keepIn K (.ref f12) = true)
    (a13 : PySem.W.nsIn K mainGlobals "_law_next" = some (some (.ref f13)))
    (l13 : K.lookup f13 = some ⟨oc13, od13, .func (PySem.W.fnOf "_law_next" "_law_next" (defArgs s__law_next) (defBody s__law_next) (defScope s__law_next) .none kV13 dc13 pm13 an13 cd13 ct13), sl13⟩)
    (c13 : PySem.W.codeIn K cd13 "_law_next" = true)
    (k13 : PySem.W.keepIn K (.ref f13) = true)
    (a14 : PySem.W.nsIn K mainGlobals "_law_after" = some (some (.ref f14)))
    (l14 : K.lookup f14 = some ⟨oc14, od14, .func (PySem.W.fnOf "_law_after" "_law_after" (defArgs s__law_after) (defBody s__law_after) (defScope s__law_after) .none kV14 dc14 pm14 an14 cd14 ct14), sl14⟩)
    (c14 : PySem.W.codeIn K cd14 "_law_after" = true)
    (k14 : PySem.W.keepIn K (.ref f14) = true)
    (a15 : PySem.W.nsIn K mainGlobals "_law_deed" = some (some (.ref f15)))
    (l15 : K.lookup f15 = some ⟨oc15, od15, .func (PySem.W.fnOf "_law_deed" "_law_deed" (defArgs s__law_deed) (defBody s__law_deed) (defScope s__law_deed) .none kV15 dc15 pm15 an15 cd15 ct15), sl15⟩)
    (c15 : PySem.W.codeIn K cd15 "_law_deed" = true)
    (k15 : PySem.W.keepIn K (.ref f15) = true)
    (a16 : PySem.W.nsIn K mainGlobals "law" = some (some (.ref f16)))
    (l16 : K.lookup f16 = some ⟨oc16, od16, .func (PySem.W.fnOf "law" "law" (defArgs s_law) (defBody s_law) (defScope s_law) .none kV16 dc16 pm16 an16 cd16 ct16), sl16⟩)
    (c16 : PySem.W.codeIn K cd16 "law" = true)
    (k16 : PySem.W.keepIn K (.ref f16) = true)
    (pg_File : PySem.W.plainGet K C_File Str.empty = true)
    (hd_File : PySem.W.hasDictIn K C_File = true)
    (po_File : PySem.W.plainOver K C_File = true)
    (sa_File : PySem.W.findIn K (.ref C_File) "__setattr__" = some (some (.builtin "object.__setattr__")))
    (mk_File : PySem.W.makesIn K C_File = true)
    (kc_File : PySem.W.keepIn K (.ref C_File) = true)
    (x_File__lasting : PySem.W.findIn K (.ref C_File) "_lasting" = some none)
    (x_File__steps : PySem.W.findIn K (.ref C_File) "_steps" = some none)
    (z_bool : PySem.W.nsIn K mainGlobals "bool" = some none)
    (z_int : PySem.W.nsIn K mainGlobals "int" = some none)
    (z_isinstance : PySem.W.nsIn K mainGlobals "isinstance" = some none)
    (z_len : PySem.W.nsIn K mainGlobals "len" = some none)
    (z_list : PySem.W.nsIn K mainGlobals "list" = some none)
    (z_min : PySem.W.nsIn K mainGlobals "min" = some none)
    (z_range : PySem.W.nsIn K mainGlobals "range" = some none)
    (z_str : PySem.W.nsIn K mainGlobals "str" = some none)
    (z_tuple : PySem.W.nsIn K mainGlobals "tuple" = some none) :
    ∃ A : Adr, Env K mg A ∧ A.f_law = fa ∧ ∀ (s : Shared) (v : Value), BindsTo s A.d_law ⟨[v], []⟩ [("script", v)] := by
  have e := hfa.symm.trans (PySem.W.mg_of X G a16)
  cases e
  have F0 := fun_mk (st := s__applied) l0 c0 k0
  have F1 := fun_mk (st := s_File___init__) l1 c1 k1
  have F2 := fun_mk (st := s_File_write) l2 c2 k2
  have F3 := fun_mk (st := s_File_shorten) l3 c3 k3
  have F4 := fun_mk (st := s_File_flush) l4 c4 k4
  have F5 := fun_mk (st := s_File_content) l5 c5 k5
  have F6 := fun_mk (st := s_File_pending) l6 c6 k6
  have F7 := fun_mk (st := s_File_lose) l7 c7 k7
  have F8 := fun_mk (st := s__law_mix) l8 c8 k8
  have F9 := fun_mk (st := s__law_draws) l9 c9 k9
  have F10 := fun_mk (st := s__law_at) l10 c10 k10
  have F11 := fun_mk (st := s__law_is_integer) l11 c11 k11
  have F12 := fun_mk (st := s__law_same) l12 c12 k12
  have F13 := fun_mk (st := s__law_next) l13 c13 k13
  have F14 := fun_mk (st := s__law_after) l14 c14 k14
  have F15 := fun_mk (st := s__law_deed) l15 c15 k15
  have F16 := fun_mk (st := s_law) l16 c16 k16
  exact ⟨{
      f__applied := f0,
      d__applied := (PySem.W.fnOf "_applied" "_applied" (defArgs s__applied) (defBody s__applied) (defScope s__applied) .none kV0 dc0 pm0 an0 cd0 ct0),
      f_File___init__ := f1,
      d_File___init__ := (PySem.W.fnOf "__init__" "File.__init__" (defArgs s_File___init__) (defBody s_File___init__) (defScope s_File___init__) .none kV1 dc1 pm1 an1 cd1 ct1),
      f_File_write := f2,
      d_File_write := (PySem.W.fnOf "write" "File.write" (defArgs s_File_write) (defBody s_File_write) (defScope s_File_write) .none kV2 dc2 pm2 an2 cd2 ct2),
      f_File_shorten := f3,
      d_File_shorten := (PySem.W.fnOf "shorten" "File.shorten" (defArgs s_File_shorten) (defBody s_File_shorten) (defScope s_File_shorten) .none kV3 dc3 pm3 an3 cd3 ct3),
      f_File_flush := f4,
      d_File_flush := (PySem.W.fnOf "flush" "File.flush" (defArgs s_File_flush) (defBody s_File_flush) (defScope s_File_flush) .none kV4 dc4 pm4 an4 cd4 ct4),
      f_File_content := f5,
      d_File_content := (PySem.W.fnOf "content" "File.content" (defArgs s_File_content) (defBody s_File_content) (defScope s_File_content) .none kV5 dc5 pm5 an5 cd5 ct5),
      f_File_pending := f6,
      d_File_pending := (PySem.W.fnOf "pending" "File.pending" (defArgs s_File_pending) (defBody s_File_pending) (defScope s_File_pending) .none kV6 dc6 pm6 an6 cd6 ct6),
      f_File_lose := f7,
      d_File_lose := (PySem.W.fnOf "lose" "File.lose" (defArgs s_File_lose) (defBody s_File_lose) (defScope s_File_lose) .none kV7 dc7 pm7 an7 cd7 ct7),
      f__law_mix := f8,
      d__law_mix := (PySem.W.fnOf "_law_mix" "_law_mix" (defArgs s__law_mix) (defBody s__law_mix) (defScope s__law_mix) .none kV8 dc8 pm8 an8 cd8 ct8),
      f__law_draws := f9,
      d__law_draws := (PySem.W.fnOf "_law_draws" "_law_draws" (defArgs s__law_draws) (defBody s__law_draws) (defScope s__law_draws) .none kV9 dc9 pm9 an9 cd9 ct9),
      f__law_at := f10,
      d__law_at := (PySem.W.fnOf "_law_at" "_law_at" (defArgs s__law_at) (defBody s__law_at) (defScope s__law_at) .none kV10 dc10 pm10 an10 cd10 ct10),
      f__law_is_integer := f11,
      d__law_is_integer := (PySem.W.fnOf "_law_is_integer" "_law_is_integer" (defArgs s__law_is_integer) (defBody s__law_is_integer) (defScope s__law_is_integer) .none kV11 dc11 pm11 an11 cd11 ct11),
      f__law_same := f12,
      d__law_same := (PySem.W.fnOf "_law_same" "_law_same" (defArgs s__law_same) (defBody s__law_same) (defScope s__law_same) .none kV12 dc12 pm12 an12 cd12 ct12),
      f__law_next := f13,
      d__law_next := (PySem.W.fnOf "_law_next" "_law_next" (defArgs s__law_next) (defBody s__law_next) (defScope s__law_next) .none kV13 dc13 pm13 an13 cd13 ct13),
      f__law_after := f14,
      d__law_after := (PySem.W.fnOf "_law_after" "_law_after" (defArgs s__law_after) (defBody s__law_after) (defScope s__law_after) .none kV14 dc14 pm14 an14 cd14 ct14),
      f__law_deed := f15,
      d__law_deed := (PySem.W.fnOf "_law_deed" "_law_deed" (defArgs s__law_deed) (defBody s__law_deed) (defScope s__law_deed) .none kV15 dc15 pm15 an15 cd15 ct15),
      f_law := fa,
      d_law := (PySem.W.fnOf "law" "law" (defArgs s_law) (defBody s_law) (defScope s_law) .none kV16 dc16 pm16 an16 cd16 ct16),
      C_File := C_File }, {
      F__applied := F0,
      b__applied := F0.binds (ps := ["data", "steps"]) fun _ _ _ _ _ _ us hl => match us, hl with | [_, _], _ => rfl,
      m__applied := PySem.W.mg_of X G a0,
      k__applied := k0,
      F_File___init__ := F1,
      b_File___init__ := F1.binds (ps := ["self"]) fun _ _ _ _ _ _ us hl => match us, hl with | [_], _ => rfl,
      h_File___init__ := ⟨a1, i1, k1⟩,
      F_File_write := F2,
      b_File_write := F2.binds (ps := ["self", "data", "steps"]) fun _ _ _ _ _ _ us hl => match us, hl with | [_, _, _], _ => rfl,
      h_File_write := ⟨a2, i2, k2⟩,
      F_File_shorten := F3,
      b_File_shorten := F3.binds (ps := ["self", "size", "steps"]) fun _ _ _ _ _ _ us hl => match us, hl with | [_, _, _], _ => rfl,
      h_File_shorten := ⟨a3, i3, k3⟩,
      F_File_flush := F4,
      b_File_flush := F4.binds (ps := ["self", "steps"]) fun _ _ _ _ _ _ us hl => match us, hl with | [_, _], _ => rfl,
      h_File_flush := ⟨a4, i4, k4⟩,
      F_File_content := F5,
      b_File_content := F5.binds (ps := ["self"]) fun _ _ _ _ _ _ us hl => match us, hl with | [_], _ => rfl,
      h_File_content := ⟨a5, i5, k5⟩,
      F_File_pending := F6,
      b_File_pending := F6.binds (ps := ["self"]) fun _ _ _ _ _ _ us hl => match us, hl with | [_], _ => rfl,
      h_File_pending := ⟨a6, i6, k6⟩,
      F_File_lose := F7,
      b_File_lose := F7.binds (ps := ["self", "steps"]) fun _ _ _ _ _ _ us hl => match us, hl with | [_, _], _ => rfl,
      h_File_lose := ⟨a7, i7, k7⟩,
      F__law_mix := F8,
      b__law_mix := F8.binds (ps := ["cell", "k"]) fun _ _ _ _ _ _ us hl => match us, hl with | [_, _], _ => rfl,
      m__law_mix := PySem.W.mg_of X G a8,
      k__law_mix := k8,
      F__law_draws := F9,
      b__law_draws := F9.binds (ps := ["script"]) fun _ _ _ _ _ _ us hl => match us, hl with | [_], _ => rfl,
      m__law_draws := PySem.W.mg_of X G a9,
      k__law_draws := k9,
      F__law_at := F10,
      b__law_at := F10.binds (ps := ["draws", "index"]) fun _ _ _ _ _ _ us hl => match us, hl with | [_, _], _ => rfl,
      m__law_at := PySem.W.mg_of X G a10,
      k__law_at := k10,
      F__law_is_integer := F11,
      b__law_is_integer := F11.binds (ps := ["actual"]) fun _ _ _ _ _ _ us hl => match us, hl with | [_], _ => rfl,
      m__law_is_integer := PySem.W.mg_of X G a11,
      k__law_is_integer := k11,
      F__law_same := F12,
      b__law_same := F12.binds (ps := ["actual", "expected"]) fun _ _ _ _ _ _ us hl => match us, hl with | [_, _], _ => rfl,
      m__law_same := PySem.W.mg_of X G a12,
      k__law_same := k12,
      F__law_next := F13,
      b__law_next := F13.binds (ps := ["state", "limit"]) fun _ _ _ _ _ _ us hl => match us, hl with | [_, _], _ => rfl,
      m__law_next := PySem.W.mg_of X G a13,
      k__law_next := k13,
      F__law_after := F14,
      b__law_after := F14.binds (ps := ["data", "steps"]) fun _ _ _ _ _ _ us hl => match us, hl with | [_, _], _ => rfl,
      m__law_after := PySem.W.mg_of X G a14,
      k__law_after := k14,
      F__law_deed := F15,
      b__law_deed := F15.binds (ps := ["state", "file", "lasting", "steps"]) fun _ _ _ _ _ _ us hl => match us, hl with | [_, _, _, _], _ => rfl,
      m__law_deed := PySem.W.mg_of X G a15,
      k__law_deed := k15,
      F_law := F16,
      b_law := F16.binds (ps := ["script"]) fun _ _ _ _ _ _ us hl => match us, hl with | [_], _ => rfl,
      m_law := PySem.W.mg_of X G a16,
      k_law := k16,
      m_File := PySem.W.mg_of X G aC_File,
      c_File := ⟨pg_File, hd_File, po_File, sa_File⟩,
      M_File := ⟨mk_File, a1, i1, kc_File⟩,
      x_File__lasting := x_File__lasting,
      x_File__steps := x_File__steps,
      n_bool := PySem.W.mg_none_of X G z_bool,
      n_int := PySem.W.mg_none_of X G z_int,
      n_isinstance := PySem.W.mg_none_of X G z_isinstance,
      n_len := PySem.W.mg_none_of X G z_len,
      n_list := PySem.W.mg_none_of X G z_list,
      n_min := PySem.W.mg_none_of X G z_min,
      n_range := PySem.W.mg_none_of X G z_range,
      n_str := PySem.W.mg_none_of X G z_str,
      n_tuple := PySem.W.mg_none_of X G z_tuple }, rfl, fun s v => .of_eq rfl⟩
theorem walk {l : PySem.W.OpenLaw} {q : Program} {loose : List Str} {XP : (Str → Option Value) → Heap → Prop} {YP : World → Heap → Prop} {d : DefRec} {K : Params → PySem.W.Frag} (hn : l.most = some 63) (hdf : d.params.defaults = [])
    (hY : ∀ (w : World) (h : Heap), YP w h → (K w.params).In h)
    (F : ∀ (w : World) (mg : Str → Option Value) (fa : Addr) (h : Heap), (K w.params).In h → h.Ns mainGlobals mg → mg d.name = some (.ref fa) →
      ∃ A : Adr, Env (K w.params) mg A ∧ A.f_law = fa ∧ ∀ (s : Shared) (v : Value), BindsTo s A.d_law ⟨[v], []⟩ [("script", v)]) :
    PySem.W.WalkO q loose XP YP l.row.toRowW d [] (fun f vs => PySem.call f vs) :=
  L2.walk_of (n := 63) (k := 7) (x := "script") (CX := fun _ => CX0) (sp := fun w => sp_law (K w.params)) hn (by decide) hdf ⟨rfl, by decide, by decide⟩ hY
    (fun w mg fa h KX G hmg => by
      obtain ⟨A, e, rfl, hb⟩ := F w mg fa h KX G hmg
      exact ⟨A.d_law, hb, fun base _ _ => ok_law e⟩)
    (fun _ _ a ns hl _ hS => ⟨a, ns, rfl, hS, hl, fun _ => rfl⟩) fun _ _ _ _ _ z => z
end My
open PySem PySem.W PyProof.Rows in
set_option maxRecDepth 100000 in
set_option maxHeartbeats 0 in
theorem PySem.Challenge.cw_planwhole_k10_files_keep_a_beginning_holds : PySem.Challenge.rw_planwhole_k10_files_keep_a_beginning.Holds := by
  w_on; o_law; k_head; (case hw => w_witness2)
  k_fill
  refine My.walk (l := PySem.Challenge.rw_planwhole_k10_files_keep_a_beginning) rfl rfl (fun w h Y => PySem.W.kIn_of Y) ?F
  case F =>
    intro w mg fa h KX G hmg
    refine' My.all_mk KX G hmg ?aC_File ?a0 ?l0 ?c0 ?k0 ?a1 ?i1 ?l1 ?c1 ?k1 ?a2 ?i2 ?l2 ?c2 ?k2 ?a3 ?i3 ?l3 ?c3 ?k3 ?a4 ?i4 ?l4 ?c4 ?k4 ?a5 ?i5 ?l5 ?c5 ?k5 ?a6 ?i6 ?l6 ?c6 ?k6 ?a7 ?i7 ?l7 ?c7 ?k7 ?a8 ?l8 ?c8 ?k8 ?a9 ?l9 ?c9 ?k9 ?a10 ?l10 ?c10 ?k10 ?a11 ?l11 ?c11 ?k11 ?a12 ?l12 ?c12 ?k12 ?a13 ?l13 ?c13 ?k13 ?a14 ?l14 ?c14 ?k14 ?a15 ?l15 ?c15 ?k15 ?a16 ?l16 ?c16 ?k16 ?pg_File ?hd_File ?po_File ?sa_File ?mk_File ?kc_File ?x_File__lasting ?x_File__steps ?z_bool ?z_int ?z_isinstance ?z_len ?z_list ?z_min ?z_range ?z_str ?z_tuple
    (case aC_File => k_is)
    (case a0 => k_is)
    (case l0 => k_is)
    (case c0 => k_is)
    (case k0 => k_is)
    (case a1 => k_is)
    (case i1 => k_is)
    (case l1 => k_is)
    (case c1 => k_is)
    (case k1 => k_is)
    (case a2 => k_is)
    (case i2 => k_is)
    (case l2 => k_is)
    (case c2 => k_is)
    (case k2 => k_is)
    (case a3 => k_is)
    (case i3 => k_is)
    (case l3 => k_is)
    (case c3 => k_is)
    (case k3 => k_is)
    (case a4 => k_is)
    (case i4 => k_is)
    (case l4 => k_is)
    (case c4 => k_is)
    (case k4 => k_is)
    (case a5 => k_is)
    (case i5 => k_is)
    (case l5 => k_is)
    (case c5 => k_is)
    (case k5 => k_is)
    (case a6 => k_is)
    (case i6 => k_is)
    (case l6 => k_is)
    (case c6 => k_is)
    (case k6 => k_is)
    (case a7 => k_is)
    (case i7 => k_is)
    (case l7 => k_is)
    (case c7 => k_is)
    (case k7 => k_is)
    (case a8 => k_is)
    (case l8 => k_is)
    (case c8 => k_is)
    (case k8 => k_is)
    (case a9 => k_is)
    (case l9 => k_is)
    (case c9 => k_is)
    (case k9 => k_is)
    (case a10 => k_is)
    (case l10 => k_is)
    (case c10 => k_is)
    (case k10 => k_is)
    (case a11 => k_is)
    (case l11 => k_is)
    (case c11 => k_is)
    (case k11 => k_is)
    (case a12 => k_is)
    (case l12 => k_is)
    (case c12 => k_is)
    (case k12 => k_is)
    (case a13 => k_is)
    (case l13 => k_is)
    (case c13 => k_is)
    (case k13 => k_is)
    (case a14 => k_is)
    (case l14 => k_is)
    (case c14 => k_is)
    (case k14 => k_is)
    (case a15 => k_is)
    (case l15 => k_is)
    (case c15 => k_is)
    (case k15 => k_is)
    (case a16 => k_is)
    (case l16 => k_is)
    (case c16 => k_is)
    (case k16 => k_is)
    (case pg_File => k_is)
    (case hd_File => k_is)
    (case po_File => k_is)
    (case sa_File => k_is)
    (case mk_File => k_is)
    (case kc_File => k_is)
    (case x_File__lasting => k_is)
    (case x_File__steps => k_is)
    (case z_bool => k_is)
    (case z_int => k_is)
    (case z_isinstance => k_is)
    (case z_len => k_is)
    (case z_list => k_is)
    (case z_min => k_is)
    (case z_range => k_is)
    (case z_str => k_is)
    (case z_tuple => k_is)

