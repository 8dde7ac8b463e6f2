import PyProof.Rows.All
import Wide.All
import OpenK.AllK
import Wide.FinOn
import HandS.ForMost
import HandS.Wide
import HandS.Iter
import HandS.Evl
import HandS.IsInst
import HandS.NoneIn
import HandS.More
import HandS.Walk
import HandS.Codes
import PySem.Challenge.RW_planwhole_k09_chunks_of_a_text
set_option Elab.async false
set_option linter.all false
set_option maxRecDepth 100000
set_option maxHeartbeats 4000000
/-! W: readings step by step (my own layer over HandS) -/
namespace W
open PySem PySem.Spec L2

/-! ### heaps -/
/-- all but S is as it was -/
def Kp (S : List Addr) (H H' : Hp) : Prop := ∀ b, b ∉ S → H b = none ∨ H' b = H b
/-- every tuple is as it was -/
def Kt (H H' : Hp) : Prop := ∀ b xs, H b = some (.tup xs) → H' b = some (.tup xs)
def Keep (S : List Addr) (H H' : Hp) : Prop := Kp S H H' ∧ Kt H H'
theorem Keep.get {S : List Addr} {H H' : Hp} {b : Addr} {o : HO} (a : Keep S H H') (h : H b = some o) (n : b ∉ S) : H' b = some o := by
  rcases a.1 b n with e | e
  · rw [h] at e; cases e
  · rw [e]; exact h
theorem Keep.of {S : List Addr} {H H' : Hp} (a : ∀ b o, b ∉ S → H b = some o → H' b = some o) (t : Kt H H') : Keep S H H' := ⟨fun b n => by
  cases e : H b with
  | none => exact .inl rfl
  | some o => rw [a b o n e]; exact .inr rfl, t⟩
theorem Keep.refl {S : List Addr} {H : Hp} : Keep S H H := ⟨fun _ _ => .inr rfl, fun _ _ h => h⟩
theorem Keep.trans {S : List Addr} {H H1 H2 : Hp} (a : Keep S H H1) (b : Keep S H1 H2) : Keep S H H2 := Keep.of (fun c o n h => b.get (a.get h n) n) fun c xs h => b.2 c xs (a.2 c xs h)
theorem Keep.mono {S S' : List Addr} {H H' : Hp} (a : Keep S H H') (h : ∀ b ∈ S, b ∈ S') : Keep S' H H' := ⟨fun c n => a.1 c (fun q => n (h c q)), a.2⟩
theorem Keep.mut {S : List Addr} {H H1 H2 : Hp} {p : Addr} (k : Keep S H H1) (np : H p = none) (k2 : Keep [p] H1 H2) : Keep S H H2 :=
  Keep.of (fun c o n h => k2.get (k.get h n) (by
    intro z
    simp at z
    rw [z, np] at h
    cases h)) fun c xs h => k2.2 c xs (k.2 c xs h)
theorem Keep.any {S : List Addr} {H H' : Hp} (a : Keep [] H H') : Keep S H H' := a.mono (by simp)
theorem Keep.same {H H' : Hp} (a : Keep [] H H') : Same H H' := fun b o h => a.get h (by simp)
theorem Same.keep {S : List Addr} {H H' : Hp} (a : Same H H') : Keep S H H' := Keep.of (fun b o _ h => a b o h) fun b xs h => a b _ h
theorem same_new {H : Hp} {p : Addr} {o : HO} (h : H p = none) : Same H (upd H p o) := fun b u e => by rw [upd_ne (ne_of_none e h)]; exact e
theorem Keep.new {S : List Addr} {H : Hp} {p : Addr} {o : HO} (h : H p = none) : Keep S H (upd H p o) := Same.keep (same_new h)
theorem Keep.put {S : List Addr} {H : Hp} {p : Addr} {o : HO} (h : p ∈ S) (nt : ∀ xs, H p ≠ some (.tup xs)) : Keep S H (upd H p o) := Keep.of (fun b u n e => by
  rw [upd_ne (fun q => n (by rw [q]; exact h))]; exact e) fun b xs e => by
  rw [upd_ne (fun q => nt xs (by rw [← q]; exact e))]; exact e
/-- behind H0 an object that H0 does not know changes -/
theorem same_mut {H H' : Hp} {p : Addr} {o : HO} (e : Same H H') (h : H p = none) : Same H (upd H' p o) := fun b u z => by rw [upd_ne (ne_of_none z h)]; exact e b u z
/-- the heap without S -/
def hid (S : List Addr) (H : Hp) : Hp := fun b => if b ∈ S then none else H b
theorem hid_same {S : List Addr} {H : Hp} : Same (hid S H) H := fun b o h => by
  unfold hid at h; split at h
  · cases h
  · exact h
theorem Keep.hid {S : List Addr} {H H' : Hp} (a : Keep S H H') : Same (hid S H) (hid S H') := fun b o h => by
  unfold W.hid at h ⊢; split at h
  · cases h
  · next n => rw [if_neg n]; exact a.get h n
theorem hid_out {S : List Addr} {H : Hp} {b : Addr} {o : HO} (h : H b = some o) (n : b ∉ S) : hid S H b = some o := by unfold hid; rw [if_neg n]; exact h
theorem hid_in {S : List Addr} {H : Hp} {b : Addr} (n : b ∈ S) : hid S H b = none := by unfold hid; rw [if_pos n]
theorem Same.hidden {S : List Addr} {G H : Hp} (s : Same G H) (h : ∀ b ∈ S, G b = none) : Same G (hid S H) := fun b o e => by
  unfold hid; rw [if_neg (fun q => by rw [h b q] at e; cases e)]; exact s b o e
/-- behind a step that keeps all but S, what stands outside of S -/
theorem Keep.behind {S : List Addr} {G H H' : Hp} (a : Keep S H H') (s : Same G H) (h : ∀ b ∈ S, G b = none) : Same G H' := fun b o e => a.get (s b o e) (fun q => by rw [h b q] at e; cases e)
theorem Same.t {K : PySem.W.Frag} {H H' : Hp} {a : Addr} {xs : List V} (e : Same H H') (h : SqT K H a xs) : SqT K H' a xs := by
  rcases h with (h | ⟨o, h⟩) | h
  · exact .inl (.inl (e _ _ h))
  · exact .inl (.inr ⟨o, e _ _ h⟩)
  · exact .inr h

theorem Keep.put0 {H : Hp} {p : Addr} {o : HO} (nt : ∀ xs, H p ≠ some (.tup xs)) : Keep [p] H (upd H p o) := Keep.put (by simp) nt
theorem put_lst {H : Hp} {p : Addr} {o : HO} {xs : List V} (h : H p = some (.lst xs)) : Keep [p] H (upd H p o) := Keep.put0 fun ys e => by rw [h] at e; cases e
theorem put_ins {H : Hp} {p : Addr} {o : HO} {C dx : Addr} {fs : List (Str × V)} (h : H p = some (.ins C dx fs)) : Keep [p] H (upd H p o) := Keep.put0 fun ys e => by rw [h] at e; cases e
theorem carry {H0 H : Hp} {a : Addr} {o : HO} (h : H0 a = some o) (k : H0 a = some o → H a = some o) : H a = some o := k h
theorem carryL {K : PySem.W.Frag} {H0 H : Hp} {a : Addr} {xs : List V} (h : SqL K H0 a xs) (k : Keep [] H0 H) : SqL K H a xs := Same.seq k.same h
theorem carryT {K : PySem.W.Frag} {H0 H : Hp} {a : Addr} {xs : List V} (h : SqT K H0 a xs) (k : Keep [] H0 H) : SqT K H a xs := Same.t k.same h
theorem Keep.free {S : List Addr} {H H' : Hp} {p : Addr} (k : Keep S H H') (h : H' p = none) (n : p ∉ S) : H p = none := by
  cases q : H p with
  | none => rfl
  | some o => rw [k.get q n] at h; cases h
/-! ### statements -/
section
variable {t u : TS} {te ta tb : TE} {g : TG} {c : TT} {nx : St → Hp → Prop} {rt : VK} {bk ct : St → Hp → Prop} {D : Ends} {σ σ0 : St} {H : Hp} {K : PySem.W.Frag}
theorem enter {N : List Str} {vs : List V} (e : start N vs = σ0) (h : t D σ0 H) : t D (start N vs) H := by rw [e]; exact h
theorem s_seq (h : t ⟨fun σ' H' => u ⟨nx, rt, bk, ct⟩ σ' H', rt, bk, ct⟩ σ H) : tSeq t u ⟨nx, rt, bk, ct⟩ σ H := h
theorem s_cut (Mid : St → Hp → Prop) (h : t ⟨Mid, rt, bk, ct⟩ σ H) (k : ∀ σ' H', Mid σ' H' → u ⟨nx, rt, bk, ct⟩ σ' H') : Evl.tCut t u ⟨nx, rt, bk, ct⟩ σ H := ⟨Mid, h, k⟩
theorem s_asg (h : te σ H fun x H1 => g x σ H1 nx) : tAsg te g ⟨nx, rt, bk, ct⟩ σ H := h
theorem s_ret (h : te σ H rt) : tRet te ⟨nx, rt, bk, ct⟩ σ H := h
theorem s_retN (h : rt .non H) : tRetN ⟨nx, rt, bk, ct⟩ σ H := h
theorem s_drop (h : te σ H fun _ H1 => nx σ H1) : tDrop te ⟨nx, rt, bk, ct⟩ σ H := h
theorem s_if (h : c σ H fun b H1 => if b = true then t D σ H1 else u D σ H1) : tIfS c t u D σ H := h
theorem s_next (h : nx σ H) : tNext ⟨nx, rt, bk, ct⟩ σ H := h
theorem s_brk (h : bk σ H) : tBreak ⟨nx, rt, bk, ct⟩ σ H := h
theorem s_cont (h : ct σ H) : tCont ⟨nx, rt, bk, ct⟩ σ H := h
theorem s_aug {i : Nat} {ti : TIp} (h : tVar i σ H fun x _ => te σ H fun y H1 => ti x y H1 fun z H2 => gName i z σ H2 nx) : tAug i te ti ⟨nx, rt, bk, ct⟩ σ H := h
def rSetF (K : PySem.W.Frag) (f : Str) (y x : V) (H : Hp) (Q : Hp → Prop) : Prop := ∃ a C dx fs, x = .ref a ∧ H a = some (.ins C dx fs) ∧ Cls K C ∧ NoAttr K C f ∧ fs.length < 1000 ∧ Q (upd H a (.ins C dx (putF f y fs)))
theorem s_fld {f : Str} (h : tb σ H fun y H1 => ta σ H1 fun x H2 => rSetF K f y x H2 fun H3 => nx σ H3) : sFld K ta tb f ⟨nx, rt, bk, ct⟩ σ H := h
theorem w_setF {f : Str} {y : V} {a C dx : Addr} {fs : List (Str × V)} {Q : Hp → Prop} (h : H a = some (.ins C dx fs)) (c : Cls K C) (n : NoAttr K C f) (l : fs.length < 1000) (q : ∀ H1, Keep [a] H H1 → H1 a = some (.ins C dx (putF f y fs)) → Q H1) : rSetF K f y (.ref a) H Q := ⟨a, C, dx, fs, rfl, h, c, n, l, q _ (put_ins h) upd_same⟩
def rGetF (K : PySem.W.Frag) (f : Str) (x : V) (H : Hp) (Q : VK) : Prop := ∃ a C dx fs v, x = .ref a ∧ H a = some (.ins C dx fs) ∧ Cls K C ∧ NoAttr K C f ∧ fs.lookup f = some v ∧ Q v H
theorem g_sub {to ti : TE} {ts : TSet} {v : V} {P : St → Hp → Prop} (h : to σ H fun o H1 => ti σ H1 fun i H2 => ts o i v H2 fun H3 => P σ H3) : gSub to ti ts v σ H P := h
theorem e_fld {f : Str} {Q : VK} (h : ta σ H fun x H1 => rGetF K f x H1 Q) : tFld K ta f σ H Q := h
theorem w_getF {f : Str} {v : V} {a C dx : Addr} {fs : List (Str × V)} {Q : VK} (h : H a = some (.ins C dx fs)) (c : Cls K C) (n : NoAttr K C f) (l : fs.lookup f = some v) (q : Q v H) : rGetF K f (.ref a) H Q := ⟨a, C, dx, fs, v, rfl, h, c, n, l, q⟩
theorem s_fldaug {f : Str} {rd : V → V → Hp → VK → Prop} (h : ta σ H fun x H1 => ∃ a C dx fs v, x = .ref a ∧ H1 a = some (.ins C dx fs) ∧ Cls K C ∧ NoAttr K C f ∧ fs.lookup f = some v ∧
  tb σ H1 fun y H2 => rd v y H2 fun z H3 => ∃ dx' fs', H3 a = some (.ins C dx' fs') ∧ fs'.length < 1000 ∧ nx σ (upd H3 a (.ins C dx' (putF f z fs')))) : sFldAug K ta tb rd f ⟨nx, rt, bk, ct⟩ σ H := h
theorem s_augS {to ti : TE} {tget : V → V → Hp → VK → Prop} {tip : TIp} {tset : TSet} (h : to σ H fun o H1 => ti σ H1 fun i H2 => tget o i H2 fun x H3 => te σ H3 fun y H4 => tip x y H4 fun z H5 => tset o i z H5 fun H6 => nx σ H6) : tAugS to ti te tget tip tset ⟨nx, rt, bk, ct⟩ σ H := h

/-! ### targets -/
theorem g_0 {v x : V} {a : Option V} {r : St} {Q : St → Hp → Prop} (q : Q (some v :: r) H) : gName 0 v (a :: r) H Q := q
end

section
variable {σ r : St} {H : Hp} {Q : VK} {v x : V} {P : St → Hp → Prop} {a0 a1 a2 a3 a4 a5 a6 a7 a8 a9 a10 a11 a12 a13 a14 a15 a16 a17 : Option V}
theorem v0 (q : Q v H) : tVar 0 (some v :: r) H Q := ⟨v, rfl, q⟩
theorem v1 (q : Q v H) : tVar 1 (a0 :: some v :: r) H Q := ⟨v, rfl, q⟩
theorem v2 (q : Q v H) : tVar 2 (a0 :: a1 :: some v :: r) H Q := ⟨v, rfl, q⟩
theorem v3 (q : Q v H) : tVar 3 (a0 :: a1 :: a2 :: some v :: r) H Q := ⟨v, rfl, q⟩
theorem v4 (q : Q v H) : tVar 4 (a0 :: a1 :: a2 :: a3 :: some v :: r) H Q := ⟨v, rfl, q⟩
theorem v5 (q : Q v H) : tVar 5 (a0 :: a1 :: a2 :: a3 :: a4 :: some v :: r) H Q := ⟨v, rfl, q⟩
theorem v6 (q : Q v H) : tVar 6 (a0 :: a1 :: a2 :: a3 :: a4 :: a5 :: some v :: r) H Q := ⟨v, rfl, q⟩
theorem v7 (q : Q v H) : tVar 7 (a0 :: a1 :: a2 :: a3 :: a4 :: a5 :: a6 :: some v :: r) H Q := ⟨v, rfl, q⟩
theorem v8 (q : Q v H) : tVar 8 (a0 :: a1 :: a2 :: a3 :: a4 :: a5 :: a6 :: a7 :: some v :: r) H Q := ⟨v, rfl, q⟩
theorem v9 (q : Q v H) : tVar 9 (a0 :: a1 :: a2 :: a3 :: a4 :: a5 :: a6 :: a7 :: a8 :: some v :: r) H Q := ⟨v, rfl, q⟩
theorem v10 (q : Q v H) : tVar 10 (a0 :: a1 :: a2 :: a3 :: a4 :: a5 :: a6 :: a7 :: a8 :: a9 :: some v :: r) H Q := ⟨v, rfl, q⟩
theorem v11 (q : Q v H) : tVar 11 (a0 :: a1 :: a2 :: a3 :: a4 :: a5 :: a6 :: a7 :: a8 :: a9 :: a10 :: some v :: r) H Q := ⟨v, rfl, q⟩
theorem v12 (q : Q v H) : tVar 12 (a0 :: a1 :: a2 :: a3 :: a4 :: a5 :: a6 :: a7 :: a8 :: a9 :: a10 :: a11 :: some v :: r) H Q := ⟨v, rfl, q⟩
theorem v13 (q : Q v H) : tVar 13 (a0 :: a1 :: a2 :: a3 :: a4 :: a5 :: a6 :: a7 :: a8 :: a9 :: a10 :: a11 :: a12 :: some v :: r) H Q := ⟨v, rfl, q⟩
theorem v14 (q : Q v H) : tVar 14 (a0 :: a1 :: a2 :: a3 :: a4 :: a5 :: a6 :: a7 :: a8 :: a9 :: a10 :: a11 :: a12 :: a13 :: some v :: r) H Q := ⟨v, rfl, q⟩
theorem v15 (q : Q v H) : tVar 15 (a0 :: a1 :: a2 :: a3 :: a4 :: a5 :: a6 :: a7 :: a8 :: a9 :: a10 :: a11 :: a12 :: a13 :: a14 :: some v :: r) H Q := ⟨v, rfl, q⟩
theorem v16 (q : Q v H) : tVar 16 (a0 :: a1 :: a2 :: a3 :: a4 :: a5 :: a6 :: a7 :: a8 :: a9 :: a10 :: a11 :: a12 :: a13 :: a14 :: a15 :: some v :: r) H Q := ⟨v, rfl, q⟩
theorem v17 (q : Q v H) : tVar 17 (a0 :: a1 :: a2 :: a3 :: a4 :: a5 :: a6 :: a7 :: a8 :: a9 :: a10 :: a11 :: a12 :: a13 :: a14 :: a15 :: a16 :: some v :: r) H Q := ⟨v, rfl, q⟩
theorem g0 (q : P (some v :: r) H) : gName 0 v (a0 :: r) H P := q
theorem g1 (q : P (a0 :: some v :: r) H) : gName 1 v (a0 :: a1 :: r) H P := q
theorem g2 (q : P (a0 :: a1 :: some v :: r) H) : gName 2 v (a0 :: a1 :: a2 :: r) H P := q
theorem g3 (q : P (a0 :: a1 :: a2 :: some v :: r) H) : gName 3 v (a0 :: a1 :: a2 :: a3 :: r) H P := q
theorem g4 (q : P (a0 :: a1 :: a2 :: a3 :: some v :: r) H) : gName 4 v (a0 :: a1 :: a2 :: a3 :: a4 :: r) H P := q
theorem g5 (q : P (a0 :: a1 :: a2 :: a3 :: a4 :: some v :: r) H) : gName 5 v (a0 :: a1 :: a2 :: a3 :: a4 :: a5 :: r) H P := q
theorem g6 (q : P (a0 :: a1 :: a2 :: a3 :: a4 :: a5 :: some v :: r) H) : gName 6 v (a0 :: a1 :: a2 :: a3 :: a4 :: a5 :: a6 :: r) H P := q
theorem g7 (q : P (a0 :: a1 :: a2 :: a3 :: a4 :: a5 :: a6 :: some v :: r) H) : gName 7 v (a0 :: a1 :: a2 :: a3 :: a4 :: a5 :: a6 :: a7 :: r) H P := q
theorem g8 (q : P (a0 :: a1 :: a2 :: a3 :: a4 :: a5 :: a6 :: a7 :: some v :: r) H) : gName 8 v (a0 :: a1 :: a2 :: a3 :: a4 :: a5 :: a6 :: a7 :: a8 :: r) H P := q
theorem g9 (q : P (a0 :: a1 :: a2 :: a3 :: a4 :: a5 :: a6 :: a7 :: a8 :: some v :: r) H) : gName 9 v (a0 :: a1 :: a2 :: a3 :: a4 :: a5 :: a6 :: a7 :: a8 :: a9 :: r) H P := q
theorem g10 (q : P (a0 :: a1 :: a2 :: a3 :: a4 :: a5 :: a6 :: a7 :: a8 :: a9 :: some v :: r) H) : gName 10 v (a0 :: a1 :: a2 :: a3 :: a4 :: a5 :: a6 :: a7 :: a8 :: a9 :: a10 :: r) H P := q
theorem g11 (q : P (a0 :: a1 :: a2 :: a3 :: a4 :: a5 :: a6 :: a7 :: a8 :: a9 :: a10 :: some v :: r) H) : gName 11 v (a0 :: a1 :: a2 :: a3 :: a4 :: a5 :: a6 :: a7 :: a8 :: a9 :: a10 :: a11 :: r) H P := q
theorem g12 (q : P (a0 :: a1 :: a2 :: a3 :: a4 :: a5 :: a6 :: a7 :: a8 :: a9 :: a10 :: a11 :: some v :: r) H) : gName 12 v (a0 :: a1 :: a2 :: a3 :: a4 :: a5 :: a6 :: a7 :: a8 :: a9 :: a10 :: a11 :: a12 :: r) H P := q
theorem g13 (q : P (a0 :: a1 :: a2 :: a3 :: a4 :: a5 :: a6 :: a7 :: a8 :: a9 :: a10 :: a11 :: a12 :: some v :: r) H) : gName 13 v (a0 :: a1 :: a2 :: a3 :: a4 :: a5 :: a6 :: a7 :: a8 :: a9 :: a10 :: a11 :: a12 :: a13 :: r) H P := q
theorem g14 (q : P (a0 :: a1 :: a2 :: a3 :: a4 :: a5 :: a6 :: a7 :: a8 :: a9 :: a10 :: a11 :: a12 :: a13 :: some v :: r) H) : gName 14 v (a0 :: a1 :: a2 :: a3 :: a4 :: a5 :: a6 :: a7 :: a8 :: a9 :: a10 :: a11 :: a12 :: a13 :: a14 :: r) H P := q
theorem g15 (q : P (a0 :: a1 :: a2 :: a3 :: a4 :: a5 :: a6 :: a7 :: a8 :: a9 :: a10 :: a11 :: a12 :: a13 :: a14 :: some v :: r) H) : gName 15 v (a0 :: a1 :: a2 :: a3 :: a4 :: a5 :: a6 :: a7 :: a8 :: a9 :: a10 :: a11 :: a12 :: a13 :: a14 :: a15 :: r) H P := q
end

/-! ### expressions -/
section
variable {σ : St} {H : Hp} {Q : VK} {P : Bool → Hp → Prop} {G : St → Hp → Prop} {ta tb tc te : TE} {tA tB' : TT} {tr : TA} {R : List V → Hp → Prop} {K : PySem.W.Frag} {x y z v : V} {i j : Int} {r r2 : R2}
theorem e_c (q : Q v H) : tC v σ H Q := q
theorem e_op (h : ta σ H fun x H1 => tb σ H1 fun y H2 => r x y H2 Q) : tOp r ta tb σ H Q := h
theorem e_un {r : V → Hp → VK → Prop} (h : ta σ H fun x H1 => r x H1 Q) : tUn r ta σ H Q := h
theorem e_if (h : tA σ H fun c H1 => if c = true then ta σ H1 Q else tb σ H1 Q) : tIf tA ta tb σ H Q := h
theorem e_CB {r : List V → Hp → VK → Prop} (h : tr σ H fun vs H1 => r vs H1 Q) : tCB r tr σ H Q := h
theorem e_call {sp : Sp} {dvs : List V} {E : XK} (h : tr σ H fun vs H1 => sp (vs ++ dvs) H1 Q E) : tCall sp dvs E tr σ H Q := h
def rNewL (xs : List V) (H : Hp) (Q : VK) : Prop := xs.length ≤ sizeLine ∧ ∀ p, H p = none → Q (.ref p) (upd H p (.lst xs))
def rNewT (xs : List V) (H : Hp) (Q : VK) : Prop := xs.length ≤ sizeLine ∧ ∀ p, H p = none → Q (.ref p) (upd H p (.tup xs))
theorem w_newL {xs : List V} (h : xs.length ≤ sizeLine) (q : ∀ p H1, H p = none → Keep [] H H1 → H1 p = some (.lst xs) → Q (.ref p) H1) : rNewL xs H Q := ⟨h, fun p hp => q p _ hp (Keep.new hp) upd_same⟩
theorem w_newT {xs : List V} (h : xs.length ≤ sizeLine) (q : ∀ p H1, H p = none → Keep [] H H1 → H1 p = some (.tup xs) → Q (.ref p) H1) : rNewT xs H Q := ⟨h, fun p hp => q p _ hp (Keep.new hp) upd_same⟩
theorem e_lst (h : tr σ H fun xs H1 => rNewL xs H1 Q) : tLst tr σ H Q := h
theorem e_tup (h : tr σ H fun xs H1 => rNewT xs H1 Q) : tTup tr σ H Q := h
theorem a_nil (h : R [] H) : tNil σ H R := h
theorem a_cons (h : ta σ H fun x H1 => tr σ H1 fun xs H2 => R (x :: xs) H2) : tCons ta tr σ H R := h
theorem e_sl {r : V → Option Int → Option Int → Hp → VK → Prop} {tl th : TO} (h : te σ H fun x H1 => tl σ H1 fun l H2 => th σ H2 fun u H3 => r x l u H3 Q) : tSl r te tl th σ H Q := h
theorem o_none {R : Option Int → Hp → Prop} (h : R none H) : tNoPart σ H R := h
def rPart (x : V) (H : Hp) (R : Option Int → Hp → Prop) : Prop := ∃ i, x = .int i ∧ R (some i) H
theorem o_some {R : Option Int → Hp → Prop} (h : te σ H fun x H1 => rPart x H1 R) : tPart te σ H R := h
theorem w_part {R : Option Int → Hp → Prop} (h : R (some i) H) : rPart (.int i) H R := ⟨i, rfl, h⟩
def rRecv (K : PySem.W.Frag) (T : String) (x : V) (H : Hp) (R : Prop) : Prop := tyV K T x H ∧ R
theorem e_bm {T : String} {r : V → List V → Hp → VK → Prop} (h : te σ H fun x H1 => rRecv K T x H1 (tr σ H1 fun xs H2 => r x xs H2 Q)) : tBM K T r te tr σ H Q := h
theorem e_bm0 {T : String} {r : V → List V → Hp → VK → Prop} (h : te σ H fun x H1 => rRecv K T x H1 (r x [] H1 Q)) : tBM0 K T r te σ H Q := h
def rMeth (C : Addr) (m : Str) (x : V) (H : Hp) (R : Prop) : Prop := ∃ a dx fs, x = .ref a ∧ H a = some (.ins C dx fs) ∧ fs.lookup m = none ∧ R
theorem e_meth {C : Addr} {m : Str} {sp : Sp} {dvs : List V} {E : XK} (h : ta σ H fun x H1 => rMeth C m x H1 (tr σ H1 fun vs H2 => sp (x :: (vs ++ dvs)) H2 Q E)) : tMeth C m sp dvs E ta tr σ H Q := h
theorem w_meth {C : Addr} {m : Str} {a dx : Addr} {fs : List (Str × V)} {R : Prop} (h : H a = some (.ins C dx fs)) (n : fs.lookup m = none) (q : R) : rMeth C m (.ref a) H R := ⟨a, dx, fs, rfl, h, n, q⟩
def rMake (C : Addr) (sp : Sp) (vs : List V) (H : Hp) (E : XK) (Q : VK) : Prop := ∀ x dx, H x = none → H dx = none → dx ≠ x → sp (.ref x :: vs) (upd (upd H dx (.own x)) x (.ins C dx [])) (fun v H2 => v = .non ∧ Q (.ref x) H2) E
theorem e_make {C : Addr} {sp : Sp} {dvs : List V} {E : XK} (h : tr σ H fun vs H1 => rMake C sp (vs ++ dvs) H1 E Q) : tMake C sp dvs E tr σ H Q := h
theorem w_make {C : Addr} {sp : Sp} {vs : List V} {E : XK} (q : ∀ x dx H1, H x = none → Keep [] H H1 → H1 x = some (.ins C dx []) → sp (.ref x :: vs) H1 (fun v H2 => v = .non ∧ Q (.ref x) H2) E) : rMake C sp vs H E Q := fun x dx hx hd ne =>
  q x dx _ hx (Keep.trans (Keep.new hd) (Keep.new (by rw [upd_ne (Ne.symm ne)]; exact hx))) upd_same
/-! tests -/
def rB (x : V) (H : Hp) (P : Bool → Hp → Prop) : Prop := ∃ k, x = .bl k ∧ P k H
theorem t_test (h : te σ H fun x H' => rB x H' P) : tTest te σ H P := h
theorem t_B (h : te σ H fun x H' => rB x H' P) : tB te σ H P := h
theorem w_B {b : Bool} (h : P b H) : rB (.bl b) H P := ⟨b, rfl, h⟩
theorem t_and (h : tA σ H fun c H1 => if c = true then tB' σ H1 P else P false H1) : tAnd tA tB' σ H P := h
theorem t_or (h : tA σ H fun c H1 => if c = true then P true H1 else tB' σ H1 P) : tOr tA tB' σ H P := h
theorem t_not (h : tA σ H fun c H1 => P (!c) H1) : tNot tA σ H P := h
def rBV (x : V) (H : Hp) (R : Bool → Prop) : Prop := ∃ c, x = .bl c ∧ R c
theorem w_BV {b : Bool} {R : Bool → Prop} (h : R b) : rBV (.bl b) H R := ⟨b, rfl, h⟩
theorem e_andV (h : ta σ H fun x H1 => rBV x H1 fun c => if c = true then tb σ H1 Q else Q (.bl false) H1) : tAndV ta tb σ H Q := h
theorem e_orV (h : ta σ H fun x H1 => rBV x H1 fun c => if c = true then Q (.bl true) H1 else tb σ H1 Q) : tOrV ta tb σ H Q := h
theorem e_notV (h : ta σ H fun x H1 => rBV x H1 fun c => Q (.bl (!c)) H1) : tNotV ta σ H Q := h
theorem e_chain (h : ta σ H fun x H1 => tb σ H1 fun y H2 => r x y H2 fun z H3 => rBV z H3 fun k => if k = true then tc σ H3 fun w' H4 => r2 y w' H4 Q else Q (.bl false) H3) : tChain r r2 ta tb tc σ H Q := h
/-! values -/
theorem w_I0 {g : Int → Int → V} (q : Q (g i j) H) : rI0 g (.int i) (.int j) H Q := ⟨i, j, rfl, rfl, q⟩
theorem w_I {C : Int → Int → Prop} {g : Int → Int → V} (c : C i j) (q : Q (g i j) H) : rI C g (.int i) (.int j) H Q := ⟨i, j, rfl, rfl, c, q⟩
theorem w_U {g : Int → V} (q : Q (g i) H) : rU g (.int i) H Q := ⟨i, rfl, q⟩
theorem w_eqI (q : Q (.bl (decide (i = j))) H) : rEq (.int i) (.int j) H Q := ⟨rfl, by
  have e : decide (V.int i = V.int j) = decide (i = j) := by
    by_cases h : i = j
    · subst h; simp
    · rw [decide_eq_false h, decide_eq_false (fun q => h (V.int.inj q))]
  rw [e]; exact q⟩
theorem w_neI (q : Q (.bl (!decide (i = j))) H) : rNe (.int i) (.int j) H Q := ⟨rfl, by
  have e : decide (V.int i = V.int j) = decide (i = j) := by
    by_cases h : i = j
    · subst h; simp
    · rw [decide_eq_false h, decide_eq_false (fun q => h (V.int.inj q))]
  rw [e]; exact q⟩
theorem w_eqS {s t : Str} (q : Q (.bl (decide (s = t))) H) : rEq (.str s) (.str t) H Q := ⟨rfl, by
  have e : decide (V.str s = V.str t) = decide (s = t) := by
    by_cases h : s = t
    · subst h; simp
    · rw [decide_eq_false h, decide_eq_false (fun q => h (V.str.inj q))]
  rw [e]; exact q⟩
theorem w_neS {s t : Str} (q : Q (.bl (!decide (s = t))) H) : rNe (.str s) (.str t) H Q := ⟨rfl, by
  have e : decide (V.str s = V.str t) = decide (s = t) := by
    by_cases h : s = t
    · subst h; simp
    · rw [decide_eq_false h, decide_eq_false (fun q => h (V.str.inj q))]
  rw [e]; exact q⟩
theorem w_eqB {s t : Bool} (q : Q (.bl (decide (s = t))) H) : rEq (.bl s) (.bl t) H Q := ⟨rfl, by
  have e : decide (V.bl s = V.bl t) = decide (s = t) := by
    by_cases h : s = t
    · subst h; simp
    · rw [decide_eq_false h, decide_eq_false (fun q => h (V.bl.inj q))]
  rw [e]; exact q⟩
theorem w_neB {s t : Bool} (q : Q (.bl (!decide (s = t))) H) : rNe (.bl s) (.bl t) H Q := ⟨rfl, by
  have e : decide (V.bl s = V.bl t) = decide (s = t) := by
    by_cases h : s = t
    · subst h; simp
    · rw [decide_eq_false h, decide_eq_false (fun q => h (V.bl.inj q))]
  rw [e]; exact q⟩
theorem w_neN (q : Q (.bl true) H) : rNe (.int i) .non H Q := ⟨rfl, q⟩
theorem w_eqN (q : Q (.bl false) H) : rEq (.int i) .non H Q := ⟨rfl, q⟩
theorem w_ixL {p : Addr} {xs : List V} {n : Nat} (h : SqL K H p xs) (e : atI xs i = some v) (q : Q v H) : rIxL K (.ref p) (.int i) H Q := ⟨p, xs, i, v, rfl, rfl, h, e, q⟩
theorem w_ixT {p : Addr} {xs : List V} {n : Nat} (h : SqT K H p xs) (e : atI xs i = some v) (q : Q v H) : rIxT K (.ref p) (.int i) H Q := ⟨p, xs, i, v, rfl, rfl, h, e, q⟩
theorem w_aug {f : Int → Int → Int} (q : Q (.int (f i j)) H) : ipI f (.int i) (.int j) H Q := ⟨i, j, rfl, rfl, q⟩
theorem w_app {l : Addr} {xs : List V} (h : H l = some (.lst xs)) (z : xs.length < sizeLine) (q : ∀ H1, Keep [l] H H1 → H1 l = some (.lst (xs ++ [y])) → Q .non H1) : rAppend (.ref l) [y] H Q := ⟨l, xs, y, rfl, rfl, h, z, q _ (put_lst h) upd_same⟩
theorem w_ext {l b : Addr} {xs zs : List V} (h : H l = some (.lst xs)) (h2 : H b = some (.lst zs)) (z : xs.length + zs.length ≤ sizeLine) (q : ∀ H1, Keep [l] H H1 → H1 l = some (.lst (xs ++ zs)) → Q .non H1) : rExtend (.ref l) [.ref b] H Q := ⟨l, b, xs, zs, rfl, rfl, h, h2, z, q _ (put_lst h) upd_same⟩
theorem w_recv {l : Addr} {xs : List V} {R : Prop} (h : SqL K H l xs) (q : R) : rRecv K "list" (.ref l) H R := ⟨.inl ⟨rfl, xs, h⟩, q⟩
theorem w_tyL {l : Addr} {xs : List V} (h : SqL K H l xs) : tyV K "list" (.ref l) H := .inl ⟨rfl, xs, h⟩
end

/-! ### built-ins by names of their own -/
def rLen (K : PySem.W.Frag) : List V → Hp → VK → Prop := fun xs H Q => ∃ p ys, xs = [.ref p] ∧ (SqL K H p ys ∨ SqT K H p ys) ∧ Q (.int ys.length) H
def rLenS : List V → Hp → VK → Prop := fun xs H Q => ∃ z : Str, xs = [.str z] ∧ z.length ≤ sizeLine ∧ Q (.int z.length) H
def rListL (K : PySem.W.Frag) : List V → Hp → VK → Prop := fun xs H Q => ∃ p ys, xs = [.ref p] ∧ (SqL K H p ys ∨ SqT K H p ys) ∧ ∀ l, H l = none → Q (.ref l) (upd H l (.lst ys))
def rTupL (K : PySem.W.Frag) : List V → Hp → VK → Prop := fun xs H Q => ∃ p ys, xs = [.ref p] ∧ ((SqL K H p ys ∧ ∀ l, H l = none → Q (.ref l) (upd H l (.tup ys))) ∨ (SqT K H p ys ∧ Q (.ref p) H))
def rInt1 : List V → Hp → VK → Prop := fun xs H Q => (∃ i, xs = [.int i] ∧ Q (.int i) H) ∨ ∃ k, xs = [.bl k] ∧ Q (.int (if k then 1 else 0)) H
def rMin2 : List V → Hp → VK → Prop := fun xs H Q => ∃ i j, xs = [.int i, .int j] ∧ Q (.int (if j < i then j else i)) H
def rMax2 : List V → Hp → VK → Prop := fun xs H Q => ∃ i j, xs = [.int i, .int j] ∧ Q (.int (if j > i then j else i)) H
def rIsNo : R2 := fun x y H Q => y = .non ∧ Q (.bl (decide (x = .non))) H
def rIsNot : R2 := fun x y H Q => y = .non ∧ Q (.bl (!decide (x = .non))) H
def rAddS : R2 := fun x y H Q => ∃ i j, x = .str i ∧ y = .str j ∧ i.length + j.length ≤ sizeLine ∧ Q (.str (i ++ j)) H
def rIxLT (K : PySem.W.Frag) : R2 := fun x y H Q => rIxL K x y H Q ∨ rIxT K x y H Q
section
variable {X : Cx}
theorem call_lenL : CallR X (.builtin "len") (rLen X.K) := call_len_seq
theorem call_lenS : CallR X (.builtin "len") rLenS := call_len_str
theorem call_listL : CallR X (.type "list") (rListL X.K) := call_list_of
theorem call_tupleL : CallR X (.type "tuple") (rTupL X.K) := call_tuple_of
theorem call_int : CallR X (.type "int") rInt1 := call_int1
theorem call_min (hc : X.calm = true) : CallR X (.builtin "min") rMin2 := call_min2 hc
theorem call_max (hc : X.calm = true) : CallR X (.builtin "max") rMax2 := call_max2 hc
theorem op_isNo : OpR X (compareOp .Is) rIsNo := op_isN
theorem op_isNot : OpR X (compareOp .IsNot) rIsNot := op_notN
theorem op_addS : OpR X (binaryOp .Add) rAddS := op_add_str
theorem ix_lt : IxR X (rIxLT X.K) := ix_list.or ix_tup
end
section
variable {H : Hp} {Q : VK} {K : PySem.W.Frag} {p : Addr} {ys : List V}
theorem w_int {i : Int} (q : Q (.int i) H) : rInt1 [.int i] H Q := .inl ⟨i, rfl, q⟩
theorem w_intB {k : Bool} (q : Q (.int (if k then 1 else 0)) H) : rInt1 [.bl k] H Q := .inr ⟨k, rfl, q⟩
theorem w_min {i j : Int} (q : Q (.int (if j < i then j else i)) H) : rMin2 [.int i, .int j] H Q := ⟨i, j, rfl, q⟩
theorem w_max {i j : Int} (q : Q (.int (if j > i then j else i)) H) : rMax2 [.int i, .int j] H Q := ⟨i, j, rfl, q⟩
theorem w_isN (q : Q (.bl true) H) : rIsNo .non .non H Q := ⟨rfl, q⟩
theorem w_isI {i : Int} (q : Q (.bl false) H) : rIsNo (.int i) .non H Q := ⟨rfl, q⟩
theorem w_isS {z : Str} (q : Q (.bl false) H) : rIsNo (.str z) .non H Q := ⟨rfl, q⟩
theorem w_isB {b : Bool} (q : Q (.bl false) H) : rIsNo (.bl b) .non H Q := ⟨rfl, q⟩
theorem w_isR {a : Addr} (q : Q (.bl false) H) : rIsNo (.ref a) .non H Q := ⟨rfl, q⟩
theorem w_notN (q : Q (.bl false) H) : rIsNot .non .non H Q := ⟨rfl, q⟩
theorem w_notI {i : Int} (q : Q (.bl true) H) : rIsNot (.int i) .non H Q := ⟨rfl, q⟩
theorem w_notR {a : Addr} (q : Q (.bl true) H) : rIsNot (.ref a) .non H Q := ⟨rfl, q⟩
theorem w_notS {z : Str} (q : Q (.bl true) H) : rIsNot (.str z) .non H Q := ⟨rfl, q⟩
theorem w_addS {s t : Str} (h : s.length + t.length ≤ sizeLine) (q : Q (.str (s ++ t)) H) : rAddS (.str s) (.str t) H Q := ⟨s, t, rfl, rfl, h, q⟩
theorem w_eqNI {j : Int} (q : Q (.bl false) H) : rEq .non (.int j) H Q := ⟨rfl, q⟩
theorem w_neNI {j : Int} (q : Q (.bl true) H) : rNe .non (.int j) H Q := ⟨rfl, q⟩
theorem w_ixLTl {xs : List V} {i : Int} {v : V} (h : SqL K H p xs) (e : atI xs i = some v) (q : Q v H) : rIxLT K (.ref p) (.int i) H Q := .inl ⟨p, xs, i, v, rfl, rfl, h, e, q⟩
theorem w_ixLTt {xs : List V} {i : Int} {v : V} (h : SqT K H p xs) (e : atI xs i = some v) (q : Q v H) : rIxLT K (.ref p) (.int i) H Q := .inr ⟨p, xs, i, v, rfl, rfl, h, e, q⟩
theorem w_set {xs : List V} {k : Int} {v : V} {j : Nat} {R : Hp → Prop} (h : H p = some (.lst xs)) (e : ixN xs.length k = some j) (q : ∀ H1, Keep [p] H H1 → H1 p = some (.lst (xs.set j v)) → R H1) : rSetL (.ref p) (.int k) v H R := ⟨p, xs, k, j, rfl, rfl, h, e, q _ (put_lst h) upd_same⟩
theorem w_cat {a b : Addr} {xs zs : List V} (h : H a = some (.lst xs)) (h2 : H b = some (.lst zs)) (z : xs.length + zs.length ≤ sizeLine) (q : ∀ l H1, H l = none → Keep [] H H1 → H1 l = some (.lst (xs ++ zs)) → Q (.ref l) H1) : rCat (.ref a) (.ref b) H Q := ⟨a, b, xs, zs, rfl, rfl, h, h2, z, fun l hl => q l _ hl (Keep.new hl) upd_same⟩
theorem w_slL {xs : List V} {lo hi : Option Int} (h : SqL K H p xs) (q : ∀ l H1, H l = none → Keep [] H H1 → H1 l = some (.lst (cutV xs lo hi)) → Q (.ref l) H1) : rSlL K (.ref p) lo hi H Q := ⟨p, xs, rfl, h, fun l hl => q l _ hl (Keep.new hl) upd_same⟩
theorem w_slS {z : Str} {lo hi : Option Int} (h : z.length ≤ sizeLine) (q : Q (.str (cutS z lo hi)) H) : rSlS (.str z) lo hi H Q := ⟨z, rfl, h, q⟩
theorem w_ixS {z : Str} {i : Int} {c : Nat} (h : z.length ≤ sizeLine) (e : atI z.cps.toList i = some c) (q : Q (.str ⟨#[c]⟩) H) : rIxS (.str z) (.int i) H Q := ⟨z, i, c, rfl, rfl, h, e, q⟩
theorem w_lenL (h : SqL K H p ys) (q : Q (.int ys.length) H) : rLen K [.ref p] H Q := ⟨p, ys, rfl, .inl h, q⟩
theorem w_lenT (h : SqT K H p ys) (q : Q (.int ys.length) H) : rLen K [.ref p] H Q := ⟨p, ys, rfl, .inr h, q⟩
theorem w_lenS {z : Str} (h : z.length ≤ sizeLine) (q : Q (.int z.length) H) : rLenS [.str z] H Q := ⟨z, rfl, h, q⟩
theorem w_listL (h : SqL K H p ys) (q : ∀ l H1, H l = none → Keep [] H H1 → H1 l = some (.lst ys) → Q (.ref l) H1) : rListL K [.ref p] H Q := ⟨p, ys, rfl, .inl h, fun l hl => q l _ hl (Keep.new hl) upd_same⟩
theorem w_listT (h : SqT K H p ys) (q : ∀ l H1, H l = none → Keep [] H H1 → H1 l = some (.lst ys) → Q (.ref l) H1) : rListL K [.ref p] H Q := ⟨p, ys, rfl, .inr h, fun l hl => q l _ hl (Keep.new hl) upd_same⟩
theorem w_tupL (h : SqL K H p ys) (q : ∀ l H1, H l = none → Keep [] H H1 → H1 l = some (.tup ys) → Q (.ref l) H1) : rTupL K [.ref p] H Q := ⟨p, ys, rfl, .inl ⟨h, fun l hl => q l _ hl (Keep.new hl) upd_same⟩⟩
end

/-! ### xs[i] op= e -/
section
variable {X : Cx}
open PyProof.Rows in
theorem get_list : PGet X (rIxL X.K) := by
  intro pins s σ H o i ov iv Q I ro ri h
  obtain ⟨p, xs, i, z, rfl, rfl, hq, he, q⟩ := h
  cases ro
  obtain ⟨t, rfl⟩ := ri
  obtain ⟨its, r, pl, hz⟩ := I.list hq
  obtain ⟨j, h1, h2, h3, h4, h5⟩ := atI_get he
  obtain ⟨w, ew, rw'⟩ := r.get h2
  have hl := r.length
  have hn := line63
  have fin : EP X pins σ Q w s := ⟨z, H, I, rw', q⟩
  by_cases h0 : 0 ≤ i
  · have hj : i.toNat = j := by
      rw [seqIndex_of h0 h5] at h1
      exact Option.some.inj h1
    exact wpAny_getItem_list pl.isList h0 (by omega) (by rw [hj]; simpa using ew) fin
  · have hj : (i + (its.toArray.size : Int)).toNat = j := by
      rw [seqIndex_neg (by omega) h4] at h1
      rw [List.size_toArray, ← hl]
      exact Option.some.inj h1
    exact wpAny_getItem_list_neg pl.isList (by omega) (by rw [List.size_toArray] <;> omega) (by omega) (by rw [hj]; simpa using ew) fin
end

/-! ### loops -/
section
variable {K : PySem.W.Frag} {g : TG} {tb : TS} {nx : L2.St → Hp → Prop} {rt : VK} {bk ct : L2.St → Hp → Prop} {D : Ends} {σ : L2.St} {H : Hp} {tl : TE} {ta : TA} {a b : Addr} {xs ys : List V}
def kForL (K : PySem.W.Frag) (g : TG) (tb : TS) (D : Ends) (σ : L2.St) (x : V) (H : Hp) : Prop := tFor (iList K (tC x)) g tb D σ H
def kForT (K : PySem.W.Frag) (g : TG) (tb : TS) (D : Ends) (σ : L2.St) (x : V) (H : Hp) : Prop := tFor (iTup K (tC x)) g tb D σ H
def kForS (g : TG) (tb : TS) (D : Ends) (σ : L2.St) (x : V) (H : Hp) : Prop := tFor (iStr (tC x)) g tb D σ H
def kForR1 (g : TG) (tb : TS) (D : Ends) (σ : L2.St) (vs : List V) (H : Hp) : Prop := tFor (iRng1 fun _ H R => R vs H) g tb D σ H
def kForR2 (g : TG) (tb : TS) (D : Ends) (σ : L2.St) (vs : List V) (H : Hp) : Prop := tFor (iRng2 fun _ H R => R vs H) g tb D σ H
def kForR3 (g : TG) (tb : TS) (D : Ends) (σ : L2.St) (vs : List V) (H : Hp) : Prop := tFor (iRng3 fun _ H R => R vs H) g tb D σ H
def kForZ (K : PySem.W.Frag) (g : TG) (tb : TS) (D : Ends) (σ : L2.St) (vs : List V) (H : Hp) : Prop := tFor (iZip K fun _ H R => R vs H) g tb D σ H
def kForE (K : PySem.W.Frag) (g : TG) (tb : TS) (D : Ends) (σ : L2.St) (vs : List V) (H : Hp) : Prop := tFor (iEnum K fun _ H R => R vs H) g tb D σ H
theorem s_forL (h : tl σ H fun x H1 => kForL K g tb D σ x H1) : tFor (iList K tl) g tb D σ H := h
theorem s_forT (h : tl σ H fun x H1 => kForT K g tb D σ x H1) : tFor (iTup K tl) g tb D σ H := h
theorem s_forS (h : tl σ H fun x H1 => kForS g tb D σ x H1) : tFor (iStr tl) g tb D σ H := h
theorem s_forR1 (h : ta σ H fun vs H1 => kForR1 g tb D σ vs H1) : tFor (iRng1 ta) g tb D σ H := h
theorem s_forR2 (h : ta σ H fun vs H1 => kForR2 g tb D σ vs H1) : tFor (iRng2 ta) g tb D σ H := h
theorem s_forR3 (h : ta σ H fun vs H1 => kForR3 g tb D σ vs H1) : tFor (iRng3 ta) g tb D σ H := h
theorem s_forZ (h : ta σ H fun vs H1 => kForZ K g tb D σ vs H1) : tFor (iZip K ta) g tb D σ H := h
theorem s_forE (h : ta σ H fun vs H1 => kForE K g tb D σ vs H1) : tFor (iEnum K ta) g tb D σ H := h
theorem forL (h : SqL K H a xs) (Pv : Nat → L2.St → Hp → Prop) (h0 : Pv 0 σ H) (hl : ∀ i σ H, i ≤ xs.length → Pv i σ H → SqL K H a xs)
    (hs : ∀ i x σ H, xs[i]? = some x → Pv i σ H → g x σ H fun σ2 H2 => tb ⟨Pv (i + 1), rt, nx, Pv (i + 1)⟩ σ2 H2) (hd : ∀ σ H, Pv xs.length σ H → nx σ H) : kForL K g tb ⟨nx, rt, bk, ct⟩ σ (.ref a) H :=
  ⟨a, rfl, ⟨xs, h⟩, for_list Pv h0 hl hs hd⟩
theorem forT (h : SqT K H a xs) (Pv : Nat → L2.St → Hp → Prop) (h0 : Pv 0 σ H) (hl : ∀ i σ H, i ≤ xs.length → Pv i σ H → SqT K H a xs)
    (hs : ∀ i x σ H, xs[i]? = some x → Pv i σ H → g x σ H fun σ2 H2 => tb ⟨Pv (i + 1), rt, nx, Pv (i + 1)⟩ σ2 H2) (hd : ∀ σ H, Pv xs.length σ H → nx σ H) : kForT K g tb ⟨nx, rt, bk, ct⟩ σ (.ref a) H :=
  ⟨a, rfl, ⟨xs, h⟩, for_tup Pv h0 hl hs hd⟩
theorem forR1 {n : Int} (h1 : -(2 ^ 62) ≤ n) (h2 : n < 2 ^ 62) (Pv : Nat → L2.St → Hp → Prop) (h0 : Pv 0 σ H)
    (hs : ∀ (i : Nat) σ H, (i : Int) < n → Pv i σ H → g (.int (i : Int)) σ H fun σ2 H2 => tb ⟨Pv (i + 1), rt, nx, Pv (i + 1)⟩ σ2 H2) (hd : ∀ σ H, Pv n.toNat σ H → nx σ H) : kForR1 g tb ⟨nx, rt, bk, ct⟩ σ [.int n] H :=
  ⟨n, rfl, h1, h2, for_range (lo := 0) (n := n.toNat) Pv h0 (fun i σ' H' hi p => by
    have e0 : (0 : Int) + (i : Int) = (i : Int) := Int.zero_add _
    rw [e0]
    exact hs i σ' H' (by omega) p) hd⟩
theorem forR2 {lo n : Int} (hb : -(2 ^ 62) ≤ lo ∧ lo < 2 ^ 62 ∧ -(2 ^ 62) ≤ n ∧ n < 2 ^ 62) (Pv : Nat → L2.St → Hp → Prop) (h0 : Pv 0 σ H)
    (hs : ∀ (i : Nat) σ H, lo + (i : Int) < n → Pv i σ H → g (.int (lo + (i : Int))) σ H fun σ2 H2 => tb ⟨Pv (i + 1), rt, nx, Pv (i + 1)⟩ σ2 H2) (hd : ∀ σ H, Pv (n - lo).toNat σ H → nx σ H) : kForR2 g tb ⟨nx, rt, bk, ct⟩ σ [.int lo, .int n] H :=
  ⟨lo, n, rfl, hb, for_range (lo := lo) (n := (n - lo).toNat) Pv h0 (fun i σ' H' hi p => hs i σ' H' (by omega) p) hd⟩
/-! while -/
def rTurn (W : Nat → L2.St → Hp → Prop) (m : Nat) (tb : TS) (D : Ends) (σ : L2.St) (H : Hp) : Prop := ∃ N : L2.St → Hp → Prop, (∀ σ' H', N σ' H' → ∃ m', m' < m ∧ W m' σ' H') ∧ tb { D with nx := N, ct := N, bk := D.nx } σ H
theorem turn {W : Nat → L2.St → Hp → Prop} {m : Nat} (h : tb ⟨fun σ' H' => ∃ m', m' < m ∧ W m' σ' H', rt, nx, fun σ' H' => ∃ m', m' < m ∧ W m' σ' H'⟩ σ H) : rTurn W m tb ⟨nx, rt, bk, ct⟩ σ H := ⟨_, fun _ _ x => x, h⟩
theorem while_ {c : TT} (W : Nat → L2.St → Hp → Prop) (m0 : Nat) (h0 : W m0 σ H) (hs : ∀ m σ H, W m σ H → c σ H fun b H1 => if b = true then rTurn W m tb ⟨nx, rt, bk, ct⟩ σ H1 else nx σ H1) : tWhile c tb ⟨nx, rt, bk, ct⟩ σ H :=
  ⟨W, ⟨m0, h0⟩, hs⟩
/-! comprehensions -/
variable {tt : TT} {te : TE} {vs : List Nat} {Q : VK}
def kLcL (K : PySem.W.Frag) (g : TG) (tt : TT) (te : TE) (vs : List Nat) (σ : L2.St) (x : V) (H : Hp) (Q : VK) : Prop := tLc (iList K (tC x)) g tt te vs σ H Q
def kLcR1 (g : TG) (tt : TT) (te : TE) (vs : List Nat) (σ : L2.St) (zs : List V) (H : Hp) (Q : VK) : Prop := tLc (iRng1 fun _ H R => R zs H) g tt te vs σ H Q
def kLcR2 (g : TG) (tt : TT) (te : TE) (vs : List Nat) (σ : L2.St) (zs : List V) (H : Hp) (Q : VK) : Prop := tLc (iRng2 fun _ H R => R zs H) g tt te vs σ H Q
def kLcZ (K : PySem.W.Frag) (g : TG) (tt : TT) (te : TE) (vs : List Nat) (σ : L2.St) (zs : List V) (H : Hp) (Q : VK) : Prop := tLc (iZip K fun _ H R => R zs H) g tt te vs σ H Q
def kLcS (g : TG) (tt : TT) (te : TE) (vs : List Nat) (σ : L2.St) (x : V) (H : Hp) (Q : VK) : Prop := tLc (iStr (tC x)) g tt te vs σ H Q
theorem e_lcL (h : tl σ H fun x H1 => kLcL K g tt te vs σ x H1 Q) : tLc (iList K tl) g tt te vs σ H Q := h
theorem e_lcR1 (h : ta σ H fun zs H1 => kLcR1 g tt te vs σ zs H1 Q) : tLc (iRng1 ta) g tt te vs σ H Q := h
theorem e_lcR2 (h : ta σ H fun zs H1 => kLcR2 g tt te vs σ zs H1 Q) : tLc (iRng2 ta) g tt te vs σ H Q := h
theorem e_lcZ (h : ta σ H fun zs H1 => kLcZ K g tt te vs σ zs H1 Q) : tLc (iZip K ta) g tt te vs σ H Q := h
theorem e_lcS (h : tl σ H fun x H1 => kLcS g tt te vs σ x H1 Q) : tLc (iStr tl) g tt te vs σ H Q := h
def rApp (D : Addr) (y : V) (H : Hp) (R : Hp → Prop) : Prop := ∃ acc, H D = some (.lst acc) ∧ acc.length < sizeLine ∧ R (upd H D (.lst (acc ++ [y])))
theorem lcL (h : SqL K H a xs) (Pv : Addr → Nat → Hp → Prop) (h0 : ∀ D H1, H D = none → Keep [] H H1 → H1 D = some (.lst []) → Pv D 0 H1) (hl : ∀ D i H, i ≤ xs.length → Pv D i H → SqL K H a xs)
    (hs : ∀ D i x H', H D = none → xs[i]? = some x → Pv D i H' → g x (wipe σ vs) H' fun σ2 H2 => wipe σ2 vs = wipe σ vs ∧ tt σ2 H2 fun b H3 => if b = true then te σ2 H3 fun y H4 => rApp D y H4 (Pv D (i + 1)) else Pv D (i + 1) H3)
    (hd : ∀ D H', H D = none → Pv D xs.length H' → Q (.ref D) H') : kLcL K g tt te vs σ (.ref a) H Q :=
  ⟨a, rfl, ⟨xs, h⟩, fun D hD => lc_list (Pv D) (h0 D _ hD (Keep.new hD) upd_same) (hl D) (fun i x H' hi p => hs D i x H' hD hi p) (fun H' p => hd D H' hD p)⟩
theorem lcR1 {n : Int} (h1 : -(2 ^ 62) ≤ n) (h2 : n < 2 ^ 62) (Pv : Addr → Nat → Hp → Prop) (h0 : ∀ D H1, H D = none → Keep [] H H1 → H1 D = some (.lst []) → Pv D 0 H1)
    (hs : ∀ D (i : Nat) H', H D = none → (i : Int) < n → Pv D i H' → g (.int (i : Int)) (wipe σ vs) H' fun σ2 H2 => wipe σ2 vs = wipe σ vs ∧ tt σ2 H2 fun b H3 => if b = true then te σ2 H3 fun y H4 => rApp D y H4 (Pv D (i + 1)) else Pv D (i + 1) H3)
    (hd : ∀ D H', H D = none → Pv D n.toNat H' → Q (.ref D) H') : kLcR1 g tt te vs σ [.int n] H Q :=
  ⟨n, rfl, h1, h2, fun D hD => lc_range (lo := 0) (n := n.toNat) (Pv D) (h0 D _ hD (Keep.new hD) upd_same) (fun i H' hi p => by
    have e0 : (0 : Int) + (i : Int) = (i : Int) := Int.zero_add _
    rw [e0]
    exact hs D i H' hD (by omega) p) (fun H' p => hd D H' hD p)⟩
theorem lcR2 {lo n : Int} (hb : -(2 ^ 62) ≤ lo ∧ lo < 2 ^ 62 ∧ -(2 ^ 62) ≤ n ∧ n < 2 ^ 62) (Pv : Addr → Nat → Hp → Prop) (h0 : ∀ D H1, H D = none → Keep [] H H1 → H1 D = some (.lst []) → Pv D 0 H1)
    (hs : ∀ D (i : Nat) H', H D = none → lo + (i : Int) < n → Pv D i H' → g (.int (lo + (i : Int))) (wipe σ vs) H' fun σ2 H2 => wipe σ2 vs = wipe σ vs ∧ tt σ2 H2 fun b H3 => if b = true then te σ2 H3 fun y H4 => rApp D y H4 (Pv D (i + 1)) else Pv D (i + 1) H3)
    (hd : ∀ D H', H D = none → Pv D (n - lo).toNat H' → Q (.ref D) H') : kLcR2 g tt te vs σ [.int lo, .int n] H Q :=
  ⟨lo, n, rfl, hb, fun D hD => lc_range (lo := lo) (n := (n - lo).toNat) (Pv D) (h0 D _ hD (Keep.new hD) upd_same) (fun i H' hi p => hs D i H' hD (by omega) p) (fun H' p => hd D H' hD p)⟩
theorem t_yes {P : Bool → Hp → Prop} (h : P true H) : tYes σ H P := h
theorem w_rApp {p : Addr} {y : V} {acc : List V} {R : Hp → Prop} (h : H p = some (.lst acc)) (z : acc.length < sizeLine) (q : ∀ H1, Keep [p] H H1 → H1 p = some (.lst (acc ++ [y])) → R H1) : rApp p y H R := ⟨acc, h, z, q _ (put_lst h) upd_same⟩
theorem w_tup {n : Nat} {t : TGs} {P : L2.St → Hp → Prop} (h : SqT K H a xs) (e : xs.length = n) (q : t xs σ H P) : gTup K n t (.ref a) σ H P := ⟨a, xs, rfl, h, e, q⟩
theorem w_gcons {t : TG} {u : TGs} {v : V} {r : List V} {P : L2.St → Hp → Prop} (q : t v σ H fun σ' H' => u r σ' H' P) : gCons t u (v :: r) σ H P := ⟨v, r, rfl, q⟩
theorem w_gnil {P : L2.St → Hp → Prop} (q : P σ H) : gNil [] σ H P := ⟨rfl, q⟩
def rPar (i j : Nat) (vs : List V) (σ : L2.St) (H : Hp) (P : L2.St → Hp → Prop) : Prop := ∃ v w, vs = [v, w] ∧ P ((σ.set i (some v)).set j (some w)) H
theorem s_par {i j : Nat} (h : ta σ H fun vs H1 => rPar i j vs σ H1 nx) : tPar i j ta ⟨nx, rt, bk, ct⟩ σ H := h
theorem w_par {i j : Nat} {v w : V} {P : L2.St → Hp → Prop} (h : P ((σ.set i (some v)).set j (some w)) H) : rPar i j [v, w] σ H P := ⟨v, w, rfl, h⟩
end

/-! ### pairs of a heap and data -/
/-- each value is a tuple that stands at H -/
def Tups {α : Type} (f : α → List V) (H : Hp) (vs : List V) (xs : List α) : Prop := Paired (fun v x => ∃ t, v = V.ref t ∧ H t = some (.tup (f x))) vs xs
section
variable {α β : Type} {f : α → List V} {H H' : Hp} {vs ws : List V} {xs ys : List α}
theorem Tups.mono (h : Tups f H vs xs) (k : ∀ b zs, H b = some (.tup zs) → H' b = some (.tup zs)) : Tups f H' vs xs := Paired.mapP h fun _ _ ⟨t, e, q⟩ => ⟨t, e, k _ _ q⟩
theorem Tups.keep {S : List Addr} (h : Tups f H vs xs) (k : Keep S H H') : Tups f H' vs xs := h.mono k.2
theorem Tups.nil : Tups f H [] [] := Paired.nil
theorem Tups.len (h : Tups f H vs xs) : vs.length = xs.length := Paired.length h
theorem Tups.snoc {t : Addr} {x : α} (h : Tups f H vs xs) (q : H t = some (.tup (f x))) : Tups f H (vs ++ [.ref t]) (xs ++ [x]) := Paired.snoc h ⟨t, rfl, q⟩
end
section
variable {α β : Type} {F : α → β → Prop}
theorem pd_append : ∀ {vs ws : List α} {xs ys : List β}, Paired F vs xs → Paired F ws ys → Paired F (vs ++ ws) (xs ++ ys)
  | _, _, _, _, .nil, h => h
  | _, _, _, _, .cons a r, h => .cons a (pd_append r h)
theorem pd_take : ∀ {vs : List α} {xs : List β} (n : Nat), Paired F vs xs → Paired F (vs.take n) (xs.take n)
  | _, _, 0, _ => .nil
  | _, _, _ + 1, .nil => .nil
  | _, _, n + 1, .cons a r => .cons a (pd_take n r)
theorem pd_drop : ∀ {vs : List α} {xs : List β} (n : Nat), Paired F vs xs → Paired F (vs.drop n) (xs.drop n)
  | _, _, 0, h => h
  | _, _, _ + 1, .nil => .nil
  | _, _, n + 1, .cons _ r => pd_drop n r
theorem pd_get : ∀ {vs : List α} {xs : List β} {i : Nat} {v : α}, Paired F vs xs → vs[i]? = some v → ∃ x, xs[i]? = some x ∧ F v x
  | _, _, _, _, .nil, e => by simp at e
  | _, _, 0, _, .cons h _, e => by
    simp at e; subst e
    exact ⟨_, rfl, h⟩
  | _, _, i + 1, v, .cons _ r, e => by
    obtain ⟨x, e1, e2⟩ := pd_get (i := i) (v := v) r (by simpa using e)
    exact ⟨x, by simpa using e1, e2⟩
theorem pd_get' : ∀ {vs : List α} {xs : List β} {i : Nat} {x : β}, Paired F vs xs → xs[i]? = some x → ∃ v, vs[i]? = some v ∧ F v x
  | _, _, _, _, .nil, e => by simp at e
  | _, _, 0, _, .cons h _, e => by
    simp at e; subst e
    exact ⟨_, rfl, h⟩
  | _, _, i + 1, x, .cons _ r, e => by
    obtain ⟨v, e1, e2⟩ := pd_get' (i := i) (x := x) r (by simpa using e)
    exact ⟨v, by simpa using e1, e2⟩
end
section
variable {α β : Type} {f : α → List V} {H H' : Hp} {vs ws : List V} {xs ys : List α}
theorem Tups.append (h : Tups f H vs xs) (k : Tups f H ws ys) : Tups f H (vs ++ ws) (xs ++ ys) := pd_append h k
theorem Tups.take (n : Nat) (h : Tups f H vs xs) : Tups f H (vs.take n) (xs.take n) := pd_take n h
theorem Tups.drop (n : Nat) (h : Tups f H vs xs) : Tups f H (vs.drop n) (xs.drop n) := pd_drop n h
theorem Tups.get {i : Nat} {v : V} (h : Tups f H vs xs) (e : vs[i]? = some v) : ∃ t x, v = .ref t ∧ xs[i]? = some x ∧ H t = some (.tup (f x)) := by
  obtain ⟨x, e1, t, e2, e3⟩ := pd_get h e
  exact ⟨t, x, e2, e1, e3⟩
end

/-! ### ifs -/
theorem ite_dec {p A B : Prop} [Decidable p] (h1 : p → A) (h2 : ¬ p → B) : if decide p = true then A else B := by
  by_cases h : p
  · rw [if_pos (decide_eq_true h)]; exact h1 h
  · rw [if_neg (by rw [decide_eq_false h]; exact Bool.false_ne_true)]; exact h2 h
theorem ite_ndec {p A B : Prop} [Decidable p] (h1 : ¬ p → A) (h2 : p → B) : if (!decide p) = true then A else B := by
  by_cases h : p
  · rw [decide_eq_true h]; exact h2 h
  · rw [decide_eq_false h]; exact h1 h
theorem ite_T {A B : Prop} (h : A) : if true = true then A else B := h
theorem ite_F {A B : Prop} (h : B) : if false = true then A else B := h
theorem ite_nT {A B : Prop} (h : B) : if (!true) = true then A else B := h
theorem ite_nF {A B : Prop} (h : A) : if (!false) = true then A else B := h
theorem ite_self {α : Type} [DecidableEq α] {x : α} {A B : Prop} (h : A) : if decide (x = x) = true then A else B := by rw [decide_eq_true rfl]; exact h
theorem ite_nself {α : Type} [DecidableEq α] {x : α} {A B : Prop} (h : B) : if (!decide (x = x)) = true then A else B := by rw [decide_eq_true rfl]; exact h
theorem ite_tf {A B : Prop} (h : B) : if decide (true = false) = true then A else B := h
theorem ite_ft {A B : Prop} (h : B) : if decide (false = true) = true then A else B := h
theorem ite_ntf {A B : Prop} (h : A) : if (!decide (true = false)) = true then A else B := h
theorem ite_nft {A B : Prop} (h : A) : if (!decide (false = true)) = true then A else B := h
theorem q_self {α : Type} [DecidableEq α] {x : α} {Q : VK} {H : Hp} (h : Q (.bl true) H) : Q (.bl (decide (x = x))) H := by rw [decide_eq_true rfl]; exact h
theorem ite_P {p A B : Prop} [Decidable p] (c : p) (h : A) : if decide p = true then A else B := by rw [if_pos (decide_eq_true c)]; exact h
theorem ite_N {p A B : Prop} [Decidable p] (c : ¬ p) (h : B) : if decide p = true then A else B := by rw [decide_eq_false c]; exact h
end W

set_option maxHeartbeats 4000000
/-! W2: data as a whole; isinstance -/
namespace W
open PySem PySem.Spec L2
mutual
def Da (H : Hp) : PyData → V → Prop
  | .none, v => v = .non
  | .bool b, v => v = .bl b
  | .int i, v => v = .int i
  | .str s, v => v = .str s
  | .list ds, v => ∃ a xs, v = .ref a ∧ H a = some (.lst xs) ∧ DaL H ds xs
  | .tuple ds, v => ∃ a xs, v = .ref a ∧ H a = some (.tup xs) ∧ DaL H ds xs
  | .dict _, _ => False
def DaL (H : Hp) : List PyData → List V → Prop
  | [], xs => xs = []
  | d :: ds, xs => ∃ v r, xs = v :: r ∧ Da H d v ∧ DaL H ds r
end
mutual
/-- how deep -/
def dep : PyData → Nat
  | .list ds => depL ds + 1
  | .tuple ds => depL ds + 1
  | _ => 0
def depL : List PyData → Nat
  | [] => 0
  | d :: ds => max (dep d) (depL ds)
end
mutual
/-- how wide -/
def wid : PyData → Nat
  | .list ds => max ds.length (widL ds)
  | .tuple ds => max ds.length (widL ds)
  | _ => 0
def widL : List PyData → Nat
  | [] => 0
  | d :: ds => max (wid d) (widL ds)
end
mutual
theorem Da.mono {H H' : Hp} (k : Same H H') : ∀ (d : PyData) (v : V), Da H d v → Da H' d v
  | .none, _, h => by simpa [Da] using h
  | .bool _, _, h => by simpa [Da] using h
  | .int _, _, h => by simpa [Da] using h
  | .str _, _, h => by simpa [Da] using h
  | .list ds, _, h => by
    simp only [Da] at h ⊢
    obtain ⟨a, xs, e, h1, h2⟩ := h
    exact ⟨a, xs, e, k _ _ h1, DaL.mono k ds xs h2⟩
  | .tuple ds, _, h => by
    simp only [Da] at h ⊢
    obtain ⟨a, xs, e, h1, h2⟩ := h
    exact ⟨a, xs, e, k _ _ h1, DaL.mono k ds xs h2⟩
  | .dict _, _, h => by simp [Da] at h
theorem DaL.mono {H H' : Hp} (k : Same H H') : ∀ (ds : List PyData) (xs : List V), DaL H ds xs → DaL H' ds xs
  | [], _, h => by simpa [DaL] using h
  | d :: ds, _, h => by
    simp only [DaL] at h ⊢
    obtain ⟨v, r, e, h1, h2⟩ := h
    exact ⟨v, r, e, Da.mono k d v h1, DaL.mono k ds r h2⟩
end
theorem DaL.len {H : Hp} : ∀ {ds : List PyData} {xs : List V}, DaL H ds xs → xs.length = ds.length
  | [], _, h => by simp only [DaL] at h; subst h; rfl
  | d :: ds, _, h => by
    simp only [DaL] at h
    obtain ⟨v, r, rfl, _, h2⟩ := h
    simp [DaL.len h2]
theorem DaL.get {H : Hp} : ∀ {ds : List PyData} {xs : List V} {i : Nat} {v : V}, DaL H ds xs → xs[i]? = some v → ∃ d, ds[i]? = some d ∧ Da H d v
  | [], _, i, v, h, e => by simp only [DaL] at h; subst h; simp at e
  | d :: ds, _, 0, v, h, e => by
    simp only [DaL] at h
    obtain ⟨u, r, rfl, h1, _⟩ := h
    simp at e; subst e
    exact ⟨d, rfl, h1⟩
  | d :: ds, _, i + 1, v, h, e => by
    simp only [DaL] at h
    obtain ⟨u, r, rfl, _, h2⟩ := h
    obtain ⟨x, e1, e2⟩ := DaL.get (i := i) (v := v) h2 (by simpa using e)
    exact ⟨x, by simpa using e1, e2⟩
theorem DaL.append {H : Hp} : ∀ {ds es : List PyData} {xs ys : List V}, DaL H ds xs → DaL H es ys → DaL H (ds ++ es) (xs ++ ys)
  | [], _, _, _, h, k => by simp only [DaL] at h; subst h; exact k
  | d :: ds, _, _, _, h, k => by
    simp only [DaL] at h
    obtain ⟨u, r, rfl, h1, h2⟩ := h
    show DaL H (d :: (ds ++ _)) (u :: (r ++ _))
    simp only [DaL]
    exact ⟨u, _, rfl, h1, DaL.append h2 k⟩
theorem DaL.snoc {H : Hp} {ds : List PyData} {xs : List V} {d : PyData} {v : V} (h : DaL H ds xs) (k : Da H d v) : DaL H (ds ++ [d]) (xs ++ [v]) :=
  h.append (by simp only [DaL]; exact ⟨v, [], rfl, k, rfl⟩)
theorem DaL.one {H : Hp} {d : PyData} {v : V} (k : Da H d v) : DaL H [d] [v] := by simp only [DaL]; exact ⟨v, [], rfl, k, rfl⟩
theorem DaL.cons {H : Hp} {ds : List PyData} {xs : List V} {d : PyData} {v : V} (k : Da H d v) (h : DaL H ds xs) : DaL H (d :: ds) (v :: xs) := by simp only [DaL]; exact ⟨v, xs, rfl, k, h⟩
theorem DaL.nil {H : Hp} : DaL H [] [] := by simp only [DaL]
theorem DaL.ints {H : Hp} : ∀ ns : List Int, DaL H (ns.map PyData.int) (ns.map V.int)
  | [] => DaL.nil
  | n :: r => DaL.cons (by simp only [Da]) (DaL.ints r)
theorem DaL.bools {H : Hp} : ∀ ns : List Bool, DaL H (ns.map PyData.bool) (ns.map V.bl)
  | [] => DaL.nil
  | n :: r => DaL.cons (by simp only [Da]) (DaL.bools r)
theorem Da.int {H : Hp} {i : Int} : Da H (.int i) (.int i) := by simp only [Da]
theorem Da.bl {H : Hp} {i : Bool} : Da H (.bool i) (.bl i) := by simp only [Da]
theorem Da.str {H : Hp} {i : Str} : Da H (.str i) (.str i) := by simp only [Da]
theorem Da.non {H : Hp} : Da H .none .non := by simp only [Da]
theorem Da.lst {H : Hp} {a : Addr} {xs : List V} {ds : List PyData} (h : H a = some (.lst xs)) (k : DaL H ds xs) : Da H (.list ds) (.ref a) := by simp only [Da]; exact ⟨a, xs, rfl, h, k⟩
theorem Da.tup {H : Hp} {a : Addr} {xs : List V} {ds : List PyData} (h : H a = some (.tup xs)) (k : DaL H ds xs) : Da H (.tuple ds) (.ref a) := by simp only [Da]; exact ⟨a, xs, rfl, h, k⟩
theorem depL_get : ∀ {ds : List PyData} {i : Nat} {d : PyData}, ds[i]? = some d → dep d ≤ depL ds
  | [], _, _, e => by simp at e
  | x :: r, 0, d, e => by simp at e; subst e; simp only [depL]; omega
  | x :: r, i + 1, d, e => by
    have h := depL_get (ds := r) (i := i) (d := d) (by simpa using e)
    simp only [depL]; omega
theorem widL_get : ∀ {ds : List PyData} {i : Nat} {d : PyData}, ds[i]? = some d → wid d ≤ widL ds
  | [], _, _, e => by simp at e
  | x :: r, 0, d, e => by simp at e; subst e; simp only [widL]; omega
  | x :: r, i + 1, d, e => by
    have h := widL_get (ds := r) (i := i) (d := d) (by simpa using e)
    simp only [widL]; omega
theorem widL_ints : ∀ ns : List Int, widL (ns.map PyData.int) = 0
  | [] => rfl
  | n :: r => by show max (wid (.int n)) (widL (r.map PyData.int)) = 0; rw [widL_ints r]; rfl
theorem depL_ints : ∀ ns : List Int, depL (ns.map PyData.int) = 0
  | [] => rfl
  | n :: r => by show max (dep (.int n)) (depL (r.map PyData.int)) = 0; rw [depL_ints r]; rfl
mutual
theorem Da.dp {K : PySem.W.Frag} {H : Hp} : ∀ (d : PyData) (v : V), Da H d v → Dp K H v d
  | .none, _, h => by simp only [Da] at h; subst h; exact .non
  | .bool b, _, h => by simp only [Da] at h; subst h; exact .bl b
  | .int i, _, h => by simp only [Da] at h; subst h; exact .int i
  | .str s, _, h => by simp only [Da] at h; subst h; exact .str s
  | .list ds, _, h => by
    simp only [Da] at h
    obtain ⟨a, xs, rfl, h1, h2⟩ := h
    exact .lst (SqL.of h1) (DaL.dp ds xs h2)
  | .tuple ds, _, h => by
    simp only [Da] at h
    obtain ⟨a, xs, rfl, h1, h2⟩ := h
    exact .tup (SqT.of h1) (DaL.dp ds xs h2)
  | .dict _, _, h => by simp [Da] at h
theorem DaL.dp {K : PySem.W.Frag} {H : Hp} : ∀ (ds : List PyData) (xs : List V), DaL H ds xs → DpAll K H xs ds
  | [], _, h => by simp only [DaL] at h; subst h; exact .nil
  | d :: ds, _, h => by
    simp only [DaL] at h
    obtain ⟨v, r, rfl, h1, h2⟩ := h
    exact .cons (Da.dp d v h1) (DaL.dp ds r h2)
end
/-! isinstance -/
def tyName : PyData → String
  | .none => "NoneType" | .bool _ => "bool" | .int _ => "int" | .str _ => "str" | .list _ => "list" | .tuple _ => "tuple" | .dict _ => "dict"
theorem Da.ty {K : PySem.W.Frag} {H : Hp} {d : PyData} {v : V} (h : Da H d v) : TyX K H v (.type (tyName d)) := by
  cases d with
  | none => simp only [Da] at h; subst h; exact .base .non
  | bool b => simp only [Da] at h; subst h; exact .base (.bl b)
  | int i => simp only [Da] at h; subst h; exact .base (.int i)
  | str s => simp only [Da] at h; subst h; exact .base (.str s)
  | list ds =>
    simp only [Da] at h
    obtain ⟨a, xs, rfl, h1, h2⟩ := h
    exact .base (.lst h1)
  | tuple ds =>
    simp only [Da] at h
    obtain ⟨a, xs, rfl, h1, h2⟩ := h
    exact .base (.tup h1)
  | dict ds => simp [Da] at h
theorem w_isi {K : PySem.W.Frag} {H : Hp} {Q : VK} {x : V} {T n : String} {b : Bool} (ty : TyX K H x (.type T)) (h : kitB T n = some b) (q : Q (.bl b) H) : rIsi K [x, .ty n] H Q := ⟨x, .ty n, .type T, .type n, b, rfl, .ty n, ty, kit_ty h, q⟩
theorem w_isiT2 {K : PySem.W.Frag} {H : Hp} {Q : VK} {x : V} {T n m : String} {tp : Addr} {b c : Bool} (ty : TyX K H x (.type T)) (ht : H tp = some (.tup [.ty n, .ty m])) (h : kitB T n = some b) (h2 : kitB T m = some c) (q : Q (.bl (b || c)) H) : rIsiT K [x, .ref tp] H Q :=
  ⟨x, tp, _, .type T, [.type n, .type m], b || c, rfl, ht, .cons (.ty n) (.cons (.ty m) .nil), ty, kitAny_cons (kit_ty h) (fun hb => by
    subst hb
    exact kitAny_cons (kit_ty h2) (fun hc => by subst hc; exact kitAny_nil) (fun hc => by subst hc; rfl)) (fun hb => by subst hb; rfl), q⟩
section
variable {K : PySem.W.Frag} {H : Hp} {Q : VK} {x : V} {T n m : String} {tp : Addr}
theorem w_isi1 (ty : TyX K H x (.type T)) (h : kitB T n = some true) (q : Q (.bl true) H) : rIsi K [x, .ty n] H Q := w_isi ty h q
theorem w_isi0 (ty : TyX K H x (.type T)) (h : kitB T n = some false) (q : Q (.bl false) H) : rIsi K [x, .ty n] H Q := w_isi ty h q
theorem w_isiT10 (ty : TyX K H x (.type T)) (ht : H tp = some (.tup [.ty n, .ty m])) (h : kitB T n = some true) (h2 : kitB T m = some false) (q : Q (.bl true) H) : rIsiT K [x, .ref tp] H Q := w_isiT2 ty ht h h2 q
theorem w_isiT01 (ty : TyX K H x (.type T)) (ht : H tp = some (.tup [.ty n, .ty m])) (h : kitB T n = some false) (h2 : kitB T m = some true) (q : Q (.bl true) H) : rIsiT K [x, .ref tp] H Q := w_isiT2 ty ht h h2 q
theorem w_isiT00 (ty : TyX K H x (.type T)) (ht : H tp = some (.tup [.ty n, .ty m])) (h : kitB T n = some false) (h2 : kitB T m = some false) (q : Q (.bl false) H) : rIsiT K [x, .ref tp] H Q := w_isiT2 ty ht h h2 q
end
/-! == of data that are the same -/
mutual
theorem canLay_ints : ∀ ns : List Int, PyData.canLayAll0 (ns.map PyData.int) = true
  | [] => rfl
  | n :: r => by show (PyData.canLay0 (.int n) && PyData.canLayAll0 (r.map PyData.int)) = true; rw [canLay_ints r]; rfl
end
theorem depth_ints : ∀ ns : List Int, PyData.depthAll (ns.map PyData.int) = 0
  | [] => rfl
  | n :: r => by show max (PyData.depth (.int n)) (PyData.depthAll (r.map PyData.int)) = 0; rw [depth_ints r]; rfl
theorem shp_ints (ns : List Int) : SeqAt.shaped (.list (ns.map PyData.int)) = true := by
  show (PyData.canLayAll0 (ns.map PyData.int) && decide (PyData.depthAll (ns.map PyData.int) + 1 ≤ 64)) = true
  rw [canLay_ints, depth_ints]; rfl
theorem w_neD {K : PySem.W.Frag} {H : Hp} {Q : VK} {x y : V} (d : PyData) (hx : Da H d x) (hy : Da H d y) (hs : SeqAt.shaped d = true) (q : Q (.bl false) H) : rNeD K x y H Q :=
  ⟨d, d, hx.dp, hy.dp, hs, hs, by rw [SeqAt.eqv_refl d (SeqAt.canLay_of_shaped hs)]; exact q⟩
theorem w_eqD {K : PySem.W.Frag} {H : Hp} {Q : VK} {x y : V} (d : PyData) (hx : Da H d x) (hy : Da H d y) (hs : SeqAt.shaped d = true) (q : Q (.bl true) H) : rEqD K x y H Q :=
  ⟨d, d, hx.dp, hy.dp, hs, hs, by rw [SeqAt.eqv_refl d (SeqAt.canLay_of_shaped hs)]; exact q⟩
/-! insert; a list unpacked -/
def rInsL : V → List V → Hp → VK → Prop := fun x vs H Q => ∃ (l : Addr) (xs : List V) (i : Int) (y : V), x = .ref l ∧ vs = [.int i, y] ∧ H l = some (.lst xs) ∧ xs.length < sizeLine ∧ 0 ≤ i ∧ i < 2 ^ 63 ∧
    Q .non (upd H l (.lst (xs.take i.toNat ++ [y] ++ xs.drop i.toNat)))
theorem mt_insertL {X : Cx} : MtR X "list.insert" rInsL := mt_insert
theorem w_ins {H : Hp} {Q : VK} {l : Addr} {xs : List V} {i : Int} {y : V} (h : H l = some (.lst xs)) (z : xs.length < sizeLine) (h0 : 0 ≤ i ∧ i < 2 ^ 63) (q : ∀ H1, Keep [l] H H1 → H1 l = some (.lst (xs.take i.toNat ++ [y] ++ xs.drop i.toNat)) → Q .non H1) :
    rInsL (.ref l) [.int i, y] H Q := ⟨l, xs, i, y, rfl, rfl, h, z, h0.1, h0.2, q _ (put_lst h) upd_same⟩
theorem w_unl {K : PySem.W.Frag} {σ : L2.St} {H : Hp} {a : Addr} {xs : List V} {n : Nat} {t : TGs} {P : L2.St → Hp → Prop} (h : SqL K H a xs) (e : xs.length = n) (q : t xs σ H P) : gUnl K n t (.ref a) σ H P := ⟨a, xs, rfl, h, e, q⟩
/-! walks that give pairs, texts -/
section
variable {K : PySem.W.Frag} {g : TG} {tb : TS} {tt : TT} {te : TE} {vs : List Nat} {Q : VK} {nx : L2.St → Hp → Prop} {rt : VK} {bk ct : L2.St → Hp → Prop} {σ : L2.St} {H : Hp} {a b : Addr} {xs ys : List V} {z : Str}
theorem lcZ {n : Nat} (hn : n = min xs.length ys.length) (hx : SqL K H a xs) (hy : SqL K H b ys) (Pv : Addr → Nat → Hp → Prop) (h0 : ∀ D H1, H D = none → Keep [] H H1 → H1 D = some (.lst []) → Pv D 0 H1) (hl : ∀ D i H, i ≤ n → Pv D i H → SqL K H a xs ∧ SqL K H b ys)
    (hs : ∀ D i x y T H' H'', H D = none → xs[i]? = some x → ys[i]? = some y → Pv D i H' → H' T = none → Keep [] H' H'' → H'' T = some (.tup [x, y]) → g (.ref T) (wipe σ vs) H'' fun σ2 H2 => wipe σ2 vs = wipe σ vs ∧ tt σ2 H2 fun b H3 => if b = true then te σ2 H3 fun y H4 => rApp D y H4 (Pv D (i + 1)) else Pv D (i + 1) H3)
    (hd : ∀ D H', H D = none → Pv D n H' → Q (.ref D) H') : kLcZ K g tt te vs σ [.ref a, .ref b] H Q :=
  ⟨a, b, xs, ys, rfl, hx, hy, fun D hD => lc_it (walk_zip hn) (Pv D) (h0 D _ hD (Keep.new hD) upd_same) (hl D) (fun i v H' H'' _ p y => by
    obtain ⟨T, x, z, rfl, nT, rfl, e1, e2⟩ := y
    exact hs D i x z T H' _ hD e1 e2 p nT (Keep.new nT) upd_same) (fun H' p => hd D H' hD p)⟩
theorem forZ {n : Nat} (hn : n = min xs.length ys.length) (hx : SqL K H a xs) (hy : SqL K H b ys) (Pv : Nat → L2.St → Hp → Prop) (h0 : Pv 0 σ H) (hl : ∀ i σ H, i ≤ n → Pv i σ H → SqL K H a xs ∧ SqL K H b ys)
    (hs : ∀ i x y T σ H' H'', xs[i]? = some x → ys[i]? = some y → Pv i σ H' → H' T = none → Keep [] H' H'' → H'' T = some (.tup [x, y]) → g (.ref T) σ H'' fun σ2 H2 => tb ⟨Pv (i + 1), rt, nx, Pv (i + 1)⟩ σ2 H2)
    (hd : ∀ σ H', Pv n σ H' → nx σ H') : kForZ K g tb ⟨nx, rt, bk, ct⟩ σ [.ref a, .ref b] H :=
  ⟨a, b, xs, ys, rfl, hx, hy, for_it (walk_zip hn) Pv h0 hl (fun i v σ H' H'' _ p y => by
    obtain ⟨T, x, z, rfl, nT, rfl, e1, e2⟩ := y
    exact hs i x z T σ H' _ e1 e2 p nT (Keep.new nT) upd_same) hd⟩
theorem forE (hx : SqL K H a xs) (Pv : Nat → L2.St → Hp → Prop) (h0 : Pv 0 σ H) (hl : ∀ i σ H, i ≤ xs.length → Pv i σ H → SqL K H a xs)
    (hs : ∀ (i : Nat) x T σ H' H'', xs[i]? = some x → Pv i σ H' → H' T = none → Keep [] H' H'' → H'' T = some (.tup [.int (i : Int), x]) → g (.ref T) σ H'' fun σ2 H2 => tb ⟨Pv (i + 1), rt, nx, Pv (i + 1)⟩ σ2 H2)
    (hd : ∀ σ H', Pv xs.length σ H' → nx σ H') : kForE K g tb ⟨nx, rt, bk, ct⟩ σ [.ref a] H :=
  ⟨a, xs, rfl, hx, for_it walk_enum Pv h0 hl (fun i v σ H' H'' _ p y => by
    obtain ⟨T, x, z, rfl, nT, rfl, e1, e2⟩ := y
    cases e1
    exact hs i z T σ H' _ e2 p nT (Keep.new nT) upd_same) hd⟩
theorem forS (Pv : Nat → L2.St → Hp → Prop) (h0 : Pv 0 σ H)
    (hs : ∀ (i : Nat) c σ H', z.cps[i]? = some c → Pv i σ H' → g (.str ⟨#[c]⟩) σ H' fun σ2 H2 => tb ⟨Pv (i + 1), rt, nx, Pv (i + 1)⟩ σ2 H2)
    (hd : ∀ σ H', Pv z.cps.size σ H' → nx σ H') : kForS g tb ⟨nx, rt, bk, ct⟩ σ (.str z) H :=
  ⟨z, rfl, for_it walk_str Pv h0 (fun _ _ _ _ _ => trivial) (fun i v σ H' H'' _ p y => by
    obtain ⟨rfl, c, e, rfl⟩ := y
    exact hs i c σ _ e p) hd⟩
theorem lcS (Pv : Addr → Nat → Hp → Prop) (h0 : ∀ D H1, H D = none → Keep [] H H1 → H1 D = some (.lst []) → Pv D 0 H1)
    (hs : ∀ D (i : Nat) c H', H D = none → z.cps[i]? = some c → Pv D i H' → g (.str ⟨#[c]⟩) (wipe σ vs) H' fun σ2 H2 => wipe σ2 vs = wipe σ vs ∧ tt σ2 H2 fun b H3 => if b = true then te σ2 H3 fun y H4 => rApp D y H4 (Pv D (i + 1)) else Pv D (i + 1) H3)
    (hd : ∀ D H', H D = none → Pv D z.cps.size H' → Q (.ref D) H') : kLcS g tt te vs σ (.str z) H Q :=
  ⟨z, rfl, fun D hD => lc_it walk_str (Pv D) (h0 D _ hD (Keep.new hD) upd_same) (fun _ _ _ _ => trivial) (fun i v H' H'' _ p y => by
    obtain ⟨rfl, c, e, rfl⟩ := y
    exact hs D i c _ hD e p) (fun H' p => hd D H' hD p)⟩
end
/-! texts as lists of codes -/
def tx (l : List Nat) : Str := ⟨l.toArray⟩
theorem tx_len (l : List Nat) : (tx l).length = l.length := by simp [tx, Str.length]
theorem tx_app (l m : List Nat) : tx l ++ tx m = tx (l ++ m) := by
  show Str.append (tx l) (tx m) = _
  simp [tx, Str.append]
theorem tx_cps (l : List Nat) : (tx l).cps.toList = l := by simp [tx]
theorem tx_inj {l m : List Nat} (h : tx l = tx m) : l = m := by
  have := congrArg (fun s : Str => s.cps.toList) h
  simpa [tx] using this
theorem tx_of (s : Str) : ∃ l, s = tx l := ⟨s.cps.toList, by cases s; simp [tx]⟩
theorem tx_eq {l m : List Nat} : decide (tx l = tx m) = decide (l = m) := by
  by_cases h : l = m
  · subst h; simp
  · rw [decide_eq_false h, decide_eq_false (fun q => h (tx_inj q))]
theorem joinL_nil : ∀ ys : List (List Nat), TL.joinL [] ys = ys.flatten
  | [] => rfl
  | [p] => by simp [TL.joinL]
  | p :: q :: r => by
    show p ++ ([] ++ TL.joinL [] (q :: r)) = _
    rw [joinL_nil (q :: r)]; simp
theorem tx_join (ys : List (List Nat)) : Txt.join (tx []) (ys.map tx) = tx ys.flatten := by
  have h := SX.join_S [] ys
  rw [joinL_nil] at h
  exact h
theorem cut_tx (l : List Nat) (s e : Nat) : cutS (tx l) (some (s : Int)) (some (e : Int)) = tx ((l.drop (min s l.length)).take (min e l.length - min s l.length)) := by
  unfold cutS
  rw [tx_cps, tx_len, HT.sIx_nat, HT.sIx_nat]; rfl
theorem cut_tx0 (l : List Nat) (e : Nat) : cutS (tx l) none (some (e : Int)) = tx (l.take e) := by
  unfold cutS
  rw [tx_cps, tx_len, HT.sIx_nat, HT.sIx_none, List.drop_zero, Nat.sub_zero, ← List.take_take, List.take_length]; rfl
theorem atI_tx {l : List Nat} {i : Nat} {c : Nat} (h : l[i]? = some c) : atI (tx l).cps.toList (i : Int) = some c := by rw [tx_cps]; exact atI_nat h
/-! the same rules, the frozen part named: so that a reading never hangs on a block's context -/
/-- str.join of a list of texts -/
def rJoin (K : PySem.W.Frag) : V → List V → Hp → VK → Prop := fun x xs H Q => ∃ a p, ∃ ys : List Str, x = .str a ∧ xs = [.ref p] ∧ (SqL K H p (ys.map V.str) ∨ SqT K H p (ys.map V.str)) ∧
    (ys.map (·.length)).sum + ys.length * a.length ≤ 16777216 ∧ Q (.str (Txt.join a ys)) H
theorem ix_listK {X : Cx} {K : PySem.W.Frag} (hK : X.K = K := by rfl) : IxR X (rIxL K) := by subst hK; exact ix_list
theorem ix_tupK {X : Cx} {K : PySem.W.Frag} (hK : X.K = K := by rfl) : IxR X (rIxT K) := by subst hK; exact ix_tup
theorem ix_ltK {X : Cx} {K : PySem.W.Frag} (hK : X.K = K := by rfl) : IxR X (rIxLT K) := by subst hK; exact ix_lt
theorem sl_listK {X : Cx} {K : PySem.W.Frag} (hK : X.K = K := by rfl) : SlR X (rSlL K) := by subst hK; exact sl_list
theorem sl_tupK {X : Cx} {K : PySem.W.Frag} (hK : X.K = K := by rfl) : SlR X (rSlT K) := by subst hK; exact sl_tup
theorem call_lenLK {X : Cx} {K : PySem.W.Frag} (hK : X.K = K := by rfl) : CallR X (.builtin "len") (rLen K) := by subst hK; exact call_lenL
theorem call_listLK {X : Cx} {K : PySem.W.Frag} (hK : X.K = K := by rfl) : CallR X (.type "list") (rListL K) := by subst hK; exact call_listL
theorem call_tupleLK {X : Cx} {K : PySem.W.Frag} (hK : X.K = K := by rfl) : CallR X (.type "tuple") (rTupL K) := by subst hK; exact call_tupleL
theorem op_in_seqK {X : Cx} {K : PySem.W.Frag} (hK : X.K = K := by rfl) : OpR X (compareOp .In) (rIn K false) := by subst hK; exact op_in_seq
theorem op_notIn_seqK {X : Cx} {K : PySem.W.Frag} (hK : X.K = K := by rfl) : OpR X (compareOp .NotIn) (rIn K true) := by subst hK; exact op_notIn_seq
theorem op_eqDK {X : Cx} {K : PySem.W.Frag} (hu : X.A.units + 64 < cLine) (hK : X.K = K := by rfl) : OpR X (compareOp .Eq) (rEqD K) := by subst hK; exact op_eqD hu
theorem op_neDK {X : Cx} {K : PySem.W.Frag} (hu : X.A.units + 64 < cLine) (hK : X.K = K := by rfl) : OpR X (compareOp .NotEq) (rNeD K) := by subst hK; exact op_neD hu
theorem op_catTK {X : Cx} {K : PySem.W.Frag} (hK : X.K = K := by rfl) : OpR X (binaryOp .Add) (rCatT K) := by subst hK; exact op_catT
theorem call_isiK {X : Cx} {K : PySem.W.Frag} (hK : X.K = K := by rfl) : CallR X (.builtin "isinstance") (rIsi K) := by subst hK; exact call_isi
theorem call_isiTK {X : Cx} {K : PySem.W.Frag} (hK : X.K = K := by rfl) : CallR X (.builtin "isinstance") (rIsiT K) := by subst hK; exact call_isiT
theorem cr_sumK {X : Cx} {K : PySem.W.Frag} (hc : X.calm = true) (hK : X.K = K := by rfl) : CallR X (.builtin "sum") (rSum K) := by subst hK; exact cr_sum hc
theorem cr_minK {X : Cx} {K : PySem.W.Frag} (hc : X.calm = true) (hK : X.K = K := by rfl) : CallR X (.builtin "min") (rMin K) := by subst hK; exact cr_min hc
theorem cr_maxK {X : Cx} {K : PySem.W.Frag} (hc : X.calm = true) (hK : X.K = K := by rfl) : CallR X (.builtin "max") (rMax K) := by subst hK; exact cr_max hc
theorem cr_allK {X : Cx} {K : PySem.W.Frag} (hc : X.calm = true) (hK : X.K = K := by rfl) : CallR X (.builtin "all") (rAll K) := by subst hK; exact cr_all hc
theorem get_listK {X : Cx} {K : PySem.W.Frag} (hK : X.K = K := by rfl) : PGet X (rIxL K) := by subst hK; exact get_list
theorem pi_listK {X : Cx} {K : PySem.W.Frag} {tg l : Expr} {tl : TE} (hl : PE X l tl) (hK : X.K = K := by rfl) : PI X tg l (iList K tl) := by subst hK; exact pi_list hl
theorem pi_tupK {X : Cx} {K : PySem.W.Frag} {tg l : Expr} {tl : TE} (hl : PE X l tl) (hK : X.K = K := by rfl) : PI X tg l (iTup K tl) := by subst hK; exact pi_tup hl
theorem pg_tupK {X : Cx} {K : PySem.W.Frag} {es : List Expr} {pos : Pos} {k : Nat} {t : TGs} {n : Nat} (hc : X.calm = true) (h : PGs X es t) (hn : (assignEach es X.env).length = n := by rfl) (hst : (assignEach es X.env).findIdx? (·.1) = none := by rfl) (hK : X.K = K := by rfl) : PG X (.Tuple es k pos) (gTup K n t) := by subst hK; exact pg_tup hc h hn hst
theorem pg_unlK {X : Cx} {K : PySem.W.Frag} {es : List Expr} {pos : Pos} {k : Nat} {t : TGs} {n : Nat} (hc : X.calm = true) (h : PGs X es t) (hn : (assignEach es X.env).length = n := by rfl) (hst : (assignEach es X.env).findIdx? (·.1) = none := by rfl) (hK : X.K = K := by rfl) : PG X (.Tuple es k pos) (gUnl K n t) := by subst hK; exact pg_unl hc h hn hst
theorem pi_zipK {X : Cx} {K : PySem.W.Frag} {e e2 : Expr} {ta : TA} {p pos tpos : Pos} {elts : List Expr} {kk : Nat} (hg : Gl X "zip") (hm : X.mg "zip" = none) (ha : PA X [e, e2] ta) (hs : starEach [e, e2] X.env = (false, eval e X.env) :: starEach [e2] X.env := by rfl) (hpl : (backTo pos (starEach [e2] X.env)).any (·.1) = false := by rfl) (hK : X.K = K := by rfl) : PI X (.Tuple elts kk tpos) (.Call (.Name "zip" p) [e, e2] [] pos) (iZip K ta) := by subst hK; exact pi_zip hg hm ha hs hpl
theorem pi_enumK {X : Cx} {K : PySem.W.Frag} {e : Expr} {ta : TA} {p pos tpos : Pos} {elts : List Expr} {kk : Nat} (hg : Gl X "enumerate") (hm : X.mg "enumerate" = none) (ha : PA X [e] ta) (hs : starEach [e] X.env = [(false, eval e X.env)] := by rfl) (hK : X.K = K := by rfl) : PI X (.Tuple elts kk tpos) (.Call (.Name "enumerate" p) [e] [] pos) (iEnum K ta) := by subst hK; exact pi_enum hg hm ha hs
theorem pe_fldK {X : Cx} {K : PySem.W.Frag} {e : Expr} {f : Str} {pos : Pos} {ta : TE} (he : PE X e ta) (hb : attributeBase e f X.env (eval e X.env) = eval e X.env) (hK : X.K = K := by rfl) : PE X (.Attribute e f pos) (tFld K ta f) := by subst hK; exact pe_fld he hb
theorem ps_fldK {X : Cx} {K : PySem.W.Frag} {o value : Expr} {f : Str} {pos pos' : Pos} {ta tv : TE} (ha : PE X o ta) (hv : PE X value tv) (hs : swapsWith value (some (.Attribute o f pos')) pos.line X.env = pure false) (hK : X.K = K := by rfl) : PS X (.Assign [.Attribute o f pos'] value pos) (sFld K ta tv f) := by subst hK; exact ps_fld ha hv hs
theorem ps_fldaugK {X : Cx} {K : PySem.W.Frag} {o value : Expr} {f : Str} {pos tpos : Pos} {ta tv : TE} {op : Operator} {rd : V → V → Hp → VK → Prop} (ha : PE X o ta) (hv : PE X value tv) (hop : InOp X op rd) (hK : X.K = K := by rfl) : PS X (.AugAssign (.Attribute o f tpos) op value pos) (sFldAug K ta tv rd f) := by subst hK; exact ps_fldaug ha hv hop
theorem pe_bm0K {X : Cx} {K : PySem.W.Frag} {o e : Expr} {es : List Expr} {to : TE} {t : TA} {name : Str} {apos cpos : Pos} {T id : String} {r : V → List V → Hp → VK → Prop} (pa : PlainAttrs T) (slot : Slot T name id) (hty : typeOf (.builtin id) = pure (.type "method_descriptor")) (hm : MtR X id r) (ho : PE X o to) (hbase : attributeBase o name X.env (eval o X.env) = eval o X.env := by rfl) (hline : (apos.endLine == cpos.line) = true := by rfl) (hK : X.K = K := by rfl) : PE X (.Call (.Attribute o name apos) [] [] cpos) (tBM0 K T r to) := by subst hK; exact pe_bm0 pa slot hty hm ho hbase hline
theorem pe_bmK {X : Cx} {K : PySem.W.Frag} {o e : Expr} {es : List Expr} {to : TE} {t : TA} {name : Str} {apos cpos : Pos} {T id : String} {r : V → List V → Hp → VK → Prop} (pa : PlainAttrs T) (slot : Slot T name id) (hty : typeOf (.builtin id) = pure (.type "method_descriptor")) (hm : MtR X id r) (ho : PE X o to) (ha : PA X (e :: es) t) (hbase : attributeBase o name X.env (eval o X.env) = eval o X.env := by rfl)
    (hfew : ((backTo cpos (starEach (e :: es) X.env)).all (fun x => !x.1) && (backToKw cpos (keywordEach [] X.env)).all (fun x => x.1.isSome)
      && decide ((e :: es).length + ([] : List Keyword).length + (if ([] : List Keyword).isEmpty then 0 else 1) < 30)) = true := by rfl)
    (hline : (apos.endLine == cpos.line) = true := by rfl) (hs : starEach (e :: es) X.env = (false, eval e X.env) :: starEach es X.env := by rfl) (hplain : (backTo cpos (starEach es X.env)).any (·.1) = false := by rfl) (hK : X.K = K := by rfl) : PE X (.Call (.Attribute o name apos) (e :: es) [] cpos) (tBM K T r to t) := by subst hK; exact pe_bm pa slot hty hm ho ha hbase hfew hline hs hplain
theorem pe_joinK {X : Cx} {K : PySem.W.Frag} {o e : Expr} {to te : TE} {apos pos : Pos} (ho : PE X o to) (he : PE X e te) (hs : starEach [e] X.env = [(false, eval e X.env)] := by rfl) (hbase : attributeBase o "join" X.env (eval o X.env) = eval o X.env := by rfl) (hline : (apos.endLine == pos.line) = true := by rfl) (hK : X.K = K := by rfl) : PE X (.Call (.Attribute o "join" apos) [e] [] pos) (tM1 (rJoin K) to te) := by subst hK; exact pe_join ho he hs hbase hline
def rStrR (x : V) (R : Prop) : Prop := (∃ a, x = .str a) ∧ R
theorem e_m1 {r : V → List V → Hp → VK → Prop} {to te : TE} {σ : L2.St} {H : Hp} {Q : VK} (h : to σ H fun x H1 => rStrR x (te σ H1 fun y H2 => r x [y] H2 Q)) : tM1 r to te σ H Q := h
theorem w_strR {a : Str} {R : Prop} (h : R) : rStrR (.str a) R := ⟨⟨a, rfl⟩, h⟩
end W

set_option maxHeartbeats 4000000
namespace My
open PySem L2 W
def topS (i : Nat) : Stmt := PySem.Challenge.pw_planwhole_k09_chunks_of_a_text.main.body.getD i (.Pass ⟨0, 0, 0, 0⟩)
abbrev s_line_starts : Stmt := topS 1
abbrev nm_line_starts : List Str := ["text", "found", "position"]
theorem sc_line_starts : FnScope nm_line_starts ["text"] (defScope s_line_starts) := ⟨rfl, rfl, rfl, by decide +kernel, rfl, by decide +kernel, by decide +kernel⟩
theorem st_line_starts (v0 : V) : start nm_line_starts [v0] = [some v0, none, none] := rfl
abbrev s_chunks : Stmt := topS 2
abbrev nm_chunks : List Str := ["text", "starts", "ends", "start", "end"]
theorem sc_chunks : FnScope nm_chunks ["text"] (defScope s_chunks) := ⟨rfl, rfl, rfl, by decide +kernel, rfl, by decide +kernel, by decide +kernel⟩
theorem st_chunks (v0 : V) : start nm_chunks [v0] = [some v0, none, none, none, none] := rfl
abbrev s__law_next : Stmt := topS 4
abbrev nm__law_next : List Str := ["state", "limit", "cell", "value"]
theorem sc__law_next : FnScope nm__law_next ["state", "limit"] (defScope s__law_next) := ⟨rfl, rfl, rfl, by decide +kernel, rfl, by decide +kernel, by decide +kernel⟩
theorem st__law_next (v0 v1 : V) : start nm__law_next [v0, v1] = [some v0, some v1, none, none] := rfl
abbrev s__law_same : Stmt := topS 5
abbrev nm__law_same : List Str := ["actual", "expected", "k"]
theorem sc__law_same : FnScope nm__law_same ["actual", "expected"] (defScope s__law_same) := ⟨rfl, rfl, rfl, by decide +kernel, rfl, by decide +kernel, by decide +kernel⟩
theorem st__law_same (v0 v1 : V) : start nm__law_same [v0, v1] = [some v0, some v1, none] := rfl
abbrev s__law_char : Stmt := topS 6
abbrev nm__law_char : List Str := ["index", "chars"]
theorem sc__law_char : FnScope nm__law_char ["index"] (defScope s__law_char) := ⟨rfl, rfl, rfl, by decide +kernel, rfl, by decide +kernel, by decide +kernel⟩
theorem st__law_char (v0 : V) : start nm__law_char [v0] = [some v0, none] := rfl
abbrev s__law_line : Stmt := topS 7
abbrev nm__law_line : List Str := ["state", "line", "k"]
theorem sc__law_line : FnScope nm__law_line ["state"] (defScope s__law_line) := ⟨rfl, rfl, rfl, by decide +kernel, rfl, by decide +kernel, by decide +kernel⟩
theorem st__law_line (v0 : V) : start nm__law_line [v0] = [some v0, none, none] := rfl
abbrev s__law_lines : Stmt := topS 8
abbrev nm__law_lines : List Str := ["state", "count", "text", "k"]
theorem sc__law_lines : FnScope nm__law_lines ["state", "count"] (defScope s__law_lines) := ⟨rfl, rfl, rfl, by decide +kernel, rfl, by decide +kernel, by decide +kernel⟩
theorem st__law_lines (v0 v1 : V) : start nm__law_lines [v0, v1] = [some v0, some v1, none, none] := rfl
abbrev s_law : Stmt := topS 9
abbrev nm_law : List Str := ["script", "state", "text", "expected", "before", "count", "k", "chunk", "actual", "position"]
theorem sc_law : FnScope nm_law ["script"] (defScope s_law) := ⟨rfl, rfl, rfl, by decide +kernel, rfl, by decide +kernel, by decide +kernel⟩
theorem st_law (v0 : V) : start nm_law [v0] = [some v0, none, none, none, none, none, none, none, none, none] := rfl
structure Adr where
  f_line_starts : Addr
  d_line_starts : FuncData
  f_chunks : Addr
  d_chunks : FuncData
  f__law_next : Addr
  d__law_next : FuncData
  f__law_same : Addr
  d__law_same : FuncData
  f__law_char : Addr
  d__law_char : FuncData
  f__law_line : Addr
  d__law_line : FuncData
  f__law_lines : Addr
  d__law_lines : FuncData
  f_law : Addr
  d_law : FuncData
structure Env (K : PySem.W.Frag) (mg : Str → Option Value) (A : Adr) : Prop where
  F_line_starts : Fun K "line_starts" "line_starts" s_line_starts A.f_line_starts A.d_line_starts
  b_line_starts : Binds K A.d_line_starts ["text"] []
  m_line_starts : mg "line_starts" = some (.ref A.f_line_starts)
  k_line_starts : PySem.W.keepIn K (.ref A.f_line_starts) = true
  F_chunks : Fun K "chunks" "chunks" s_chunks A.f_chunks A.d_chunks
  b_chunks : Binds K A.d_chunks ["text"] []
  m_chunks : mg "chunks" = some (.ref A.f_chunks)
  k_chunks : PySem.W.keepIn K (.ref A.f_chunks) = true
  F__law_next : Fun K "_law_next" "_law_next" s__law_next A.f__law_next A.d__law_next
  b__law_next : Binds K A.d__law_next ["state", "limit"] []
  m__law_next : mg "_law_next" = some (.ref A.f__law_next)
  k__law_next : PySem.W.keepIn K (.ref A.f__law_next) = true
  F__law_same : Fun K "_law_same" "_law_same" s__law_same A.f__law_same A.d__law_same
  b__law_same : Binds K A.d__law_same ["actual", "expected"] []
  m__law_same : mg "_law_same" = some (.ref A.f__law_same)
  k__law_same : PySem.W.keepIn K (.ref A.f__law_same) = true
  F__law_char : Fun K "_law_char" "_law_char" s__law_char A.f__law_char A.d__law_char
  b__law_char : Binds K A.d__law_char ["index"] []
  m__law_char : mg "_law_char" = some (.ref A.f__law_char)
  k__law_char : PySem.W.keepIn K (.ref A.f__law_char) = true
  F__law_line : Fun K "_law_line" "_law_line" s__law_line A.f__law_line A.d__law_line
  b__law_line : Binds K A.d__law_line ["state"] []
  m__law_line : mg "_law_line" = some (.ref A.f__law_line)
  k__law_line : PySem.W.keepIn K (.ref A.f__law_line) = true
  F__law_lines : Fun K "_law_lines" "_law_lines" s__law_lines A.f__law_lines A.d__law_lines
  b__law_lines : Binds K A.d__law_lines ["state", "count"] []
  m__law_lines : mg "_law_lines" = some (.ref A.f__law_lines)
  k__law_lines : PySem.W.keepIn K (.ref A.f__law_lines) = true
  F_law : Fun K "law" "law" s_law A.f_law A.d_law
  b_law : Binds K A.d_law ["script"] []
  m_law : mg "law" = some (.ref A.f_law)
  k_law : PySem.W.keepIn K (.ref A.f_law) = true
  n_bool : mg "bool" = none
  n_int : mg "int" = none
  n_isinstance : mg "isinstance" = none
  n_len : mg "len" = none
  n_list : mg "list" = none
  n_range : mg "range" = none
  n_str : mg "str" = none
  n_tuple : mg "tuple" = none
  n_zip : mg "zip" = none
end My

set_option maxHeartbeats 4000000
local macro_rules | `(tactic| walk_at "k") => `(tactic| first
  | assumption
  | exact W.Keep.trans (by assumption) (by assumption)
  | exact And.intro (by grind [W.Keep, W.Kp]) (by grind [W.Keep, W.Kt])
  | grind [W.Keep, W.Kp])
local macro_rules | `(tactic| walk_at "f") => `(tactic| first
  | assumption
  | exact L2.SqL.of (by assumption)
  | exact L2.SqT.of (by assumption)
  | exact L2.SqL.of L2.upd_same
  | exact L2.SqT.of L2.upd_same
  | exact L2.upd_same
  | exact W.carryL (by assumption) (by assumption)
  | exact W.carryL (by assumption) (by walk_at "k")
  | exact W.carryT (by assumption) (by walk_at "k")
  | exact W.carry (by assumption) (by grind [W.Keep, W.Kp])
  | exact L2.SqL.of (W.carry (by assumption) (by grind [W.Keep, W.Kp]))
  | exact L2.SqT.of (W.carry (by assumption) (by grind [W.Keep, W.Kp])))
local macro_rules | `(tactic| walk_at "a") => `(tactic| first
  | assumption
  | rfl)
local macro_rules | `(tactic| walk_at "n") => `(tactic| first
  | assumption
  | exact Nat.zero_le _
  | decide
  | (simp only [List.length_cons, List.length_nil]; decide)
  | omega
  | (simp only [PySem.sizeLine_eq]; omega)
  | (simp only [List.length_map, List.length_append, List.length_cons, List.length_nil, PySem.sizeLine_eq]; omega)
  | (simp only [List.length_map, List.length_append, List.length_cons, List.length_nil, List.length_take, List.length_drop, PySem.sizeLine_eq]; omega)
  | (simp only [List.length_map, List.length_append, List.length_cons, List.length_nil, PySem.sizeLine_eq] at *; omega))
local macro_rules | `(tactic| walk_at "c") => `(tactic| first
  | assumption
  | decide
  | exact And.intro (by decide) (by decide)
  | exact Or.inr (And.intro (by decide) (by decide))
  | exact Or.inl (And.intro (by decide) (by decide))
  | exact And.intro (by decide) (And.intro (by decide) (by decide))
  | exact (show (0 : Int) < _ by decide)
  | exact And.intro (by omega) (by omega)
  | exact Or.inl (And.intro (by omega) (by omega))
  | exact Or.inr (And.intro (by omega) (by omega))
  | exact (show (0 : Int) < _ by omega))
local macro_rules | `(tactic| walk_at "v") => `(tactic| with_reducible first
  | refine W.v0 ?_ | refine W.v1 ?_ | refine W.v2 ?_ | refine W.v3 ?_ | refine W.v4 ?_ | refine W.v5 ?_ | refine W.v6 ?_ | refine W.v7 ?_ | refine W.v8 ?_
  | refine W.v9 ?_ | refine W.v10 ?_ | refine W.v11 ?_ | refine W.v12 ?_ | refine W.v13 ?_ | refine W.v14 ?_ | refine W.v15 ?_ | refine W.v16 ?_ | refine W.v17 ?_
  | refine W.g0 ?_ | refine W.g1 ?_ | refine W.g2 ?_ | refine W.g3 ?_ | refine W.g4 ?_ | refine W.g5 ?_ | refine W.g6 ?_ | refine W.g7 ?_ | refine W.g8 ?_
  | refine W.g9 ?_ | refine W.g10 ?_ | refine W.g11 ?_ | refine W.g12 ?_ | refine W.g13 ?_ | refine W.g14 ?_ | refine W.g15 ?_)
local macro_rules | `(tactic| walk_at "e") => `(tactic| with_reducible first
  | refine W.e_c ?_ | refine W.e_op ?_ | refine W.s_seq ?_ | refine W.s_asg ?_ | refine W.e_CB ?_ | refine W.a_cons ?_ | refine W.a_nil ?_ | refine W.e_call ?_
  | refine W.t_test ?_ | refine W.w_B ?_ | refine W.s_if ?_ | refine W.s_ret ?_ | refine W.s_drop ?_ | refine W.e_un ?_ | refine W.e_fld ?_ | refine W.s_fld ?_
  | refine W.e_meth ?_ | refine W.e_if ?_ | refine W.e_lst ?_ | refine W.e_tup ?_ | refine W.e_sl ?_ | refine W.o_none ?_ | refine W.o_some ?_ | refine W.w_part ?_
  | refine W.e_bm ?_ | refine W.e_bm0 ?_ | refine W.t_B ?_ | refine W.t_and ?_ | refine W.t_or ?_ | refine W.t_not ?_ | refine W.e_andV ?_ | refine W.e_orV ?_ | refine W.e_notV ?_ | refine W.w_BV ?_ | refine W.e_chain ?_
  | refine W.s_aug ?_ | refine W.s_augS ?_ | refine W.s_next ?_ | refine W.s_brk ?_ | refine W.s_cont ?_ | refine W.s_retN ?_ | refine W.s_fldaug ?_ | refine W.e_make ?_ | refine W.w_make ?_
  | refine W.w_I0 ?_ | refine W.w_U ?_ | refine W.w_aug ?_ | refine W.w_eqI ?_ | refine W.w_neI ?_ | refine W.w_eqS ?_ | refine W.w_neS ?_ | refine W.w_eqB ?_ | refine W.w_neB ?_
  | refine W.w_int ?_ | refine W.w_intB ?_ | refine W.w_min ?_ | refine W.w_max ?_ | refine W.w_isN ?_ | refine W.w_isI ?_ | refine W.w_isS ?_ | refine W.w_isB ?_ | refine W.w_isR ?_
  | refine W.w_notN ?_ | refine W.w_notI ?_ | refine W.w_notR ?_ | refine W.w_notS ?_ | refine W.w_eqNI ?_ | refine W.w_neNI ?_ | refine W.w_eqN ?_ | refine W.w_neN ?_
  | refine W.s_forL ?_ | refine W.s_forT ?_ | refine W.s_forS ?_ | refine W.s_forR1 ?_ | refine W.s_forR2 ?_ | refine W.s_forR3 ?_ | refine W.s_forZ ?_ | refine W.s_forE ?_
  | refine W.e_lcL ?_ | refine W.e_lcR1 ?_ | refine W.e_lcR2 ?_ | refine W.e_lcZ ?_ | refine W.e_lcS ?_ | refine W.t_yes ?_ | refine W.w_gcons ?_ | refine W.w_gnil ?_ | refine W.s_par ?_ | refine W.w_par ?_ | refine W.g_sub ?_ | refine W.e_m1 ?_ | refine W.w_strR ?_)
local macro_rules | `(tactic| walk_at "w") => `(tactic| first
  | ((with_reducible refine' W.w_I ?wh ?wq); (case wh => walk_at "c"))
  | ((with_reducible refine' W.w_ixL (n := 0) ?wh ?we ?wq); (case wh => walk_at "f"); (case we => walk_at "a"))
  | ((with_reducible refine' W.w_ixT (n := 0) ?wh ?we ?wq); (case wh => walk_at "f"); (case we => walk_at "a"))
  | ((with_reducible refine' W.w_lenL ?wh ?wq); (case wh => walk_at "f"))
  | ((with_reducible refine' W.w_lenT ?wh ?wq); (case wh => walk_at "f"))
  | ((with_reducible refine' W.w_lenS ?wh ?wq); (case wh => walk_at "n"))
  | ((with_reducible refine' W.w_app ?wh ?we ?wq); (case wh => walk_at "f"); (case we => walk_at "n"))
  | ((with_reducible refine' W.w_meth ?wh ?we ?wq); (case wh => walk_at "f"); (case we => first | assumption | rfl))
  | ((with_reducible refine' W.w_ixLTl ?wh ?we ?wq); (case wh => walk_at "f"); (case we => walk_at "a"))
  | ((with_reducible refine' W.w_ixLTt ?wh ?we ?wq); (case wh => walk_at "f"); (case we => walk_at "a"))
  | ((with_reducible refine' W.w_addS ?wh ?wq); (case wh => walk_at "n"))
  | ((with_reducible refine' W.w_set ?wh ?we ?wq); (case wh => walk_at "f"); (case we => walk_at "a"))
  | ((with_reducible refine' W.w_tup ?wh ?we ?wq); (case wh => walk_at "f"); (case we => first | assumption | rfl))
  | ((with_reducible refine' W.w_slS ?wh ?wq); (case wh => walk_at "n"))
  | ((with_reducible refine' W.w_rApp ?wh ?we ?wq); (case wh => walk_at "f"); (case we => walk_at "n"))
  | ((with_reducible refine' W.w_newL ?wh ?wq); (case wh => walk_at "n"))
  | ((with_reducible refine' W.w_newT ?wh ?wq); (case wh => walk_at "n"))
  | ((with_reducible refine' W.w_listL ?wh ?wq); (case wh => walk_at "f"))
  | ((with_reducible refine' W.w_tupL ?wh ?wq); (case wh => walk_at "f"))
  | ((with_reducible refine' W.w_slL ?wh ?wq); (case wh => walk_at "f"))
  | ((with_reducible refine' W.w_cat ?wh ?wf ?we ?wq); (case wh => walk_at "f"); (case wf => walk_at "f"); (case we => walk_at "n"))
  | ((with_reducible refine' W.w_ext ?wh ?wf ?we ?wq); (case wh => walk_at "f"); (case wf => walk_at "f"); (case we => walk_at "n"))
  | ((with_reducible refine' W.w_recv ?wh ?wq); (case wh => walk_at "f"))
  | ((with_reducible refine' W.w_isi1 ?wh ?we ?wq); (case wh => assumption); (case we => decide +kernel))
  | ((with_reducible refine' W.w_isi0 ?wh ?we ?wq); (case wh => assumption); (case we => decide +kernel))
  | ((with_reducible refine' W.w_isiT10 ?wh ?wf ?we ?wg ?wq); (case wh => assumption); (case wf => walk_at "f"); (case we => decide +kernel); (case wg => decide +kernel))
  | ((with_reducible refine' W.w_isiT01 ?wh ?wf ?we ?wg ?wq); (case wh => assumption); (case wf => walk_at "f"); (case we => decide +kernel); (case wg => decide +kernel))
  | ((with_reducible refine' W.w_isiT00 ?wh ?wf ?we ?wg ?wq); (case wh => assumption); (case wf => walk_at "f"); (case we => decide +kernel); (case wg => decide +kernel))
  | ((with_reducible refine' W.w_ins ?wh ?we ?wf ?wq); (case wh => walk_at "f"); (case we => walk_at "n"); (case wf => walk_at "c"))
  | ((with_reducible refine' W.w_unl ?wh ?we ?wq); (case wh => walk_at "f"); (case we => first | assumption | rfl))
  | ((with_reducible refine' W.ite_T ?_))
  | ((with_reducible refine' W.ite_F ?_))
  | ((with_reducible refine' W.ite_nT ?_))
  | ((with_reducible refine' W.ite_nF ?_))
  | ((with_reducible refine' W.ite_self ?_))
  | ((with_reducible refine' W.ite_nself ?_))
  | ((with_reducible refine' W.ite_tf ?_))
  | ((with_reducible refine' W.ite_ft ?_))
  | ((with_reducible refine' W.ite_ntf ?_))
  | ((with_reducible refine' W.ite_nft ?_))
  | ((with_reducible refine' And.intro ?wl ?wq); (case wl => rfl)))
local macro_rules | `(tactic| walk_at "i") => `(tactic| try (dsimp only [L2.cxOf, L2.wipe, List.map, List.set]))
local macro_rules | `(tactic| walk_at "s") => `(tactic| first | walk_at "v" | walk_at "e" | walk_at "w")
local macro_rules | `(tactic| walk_at "r") => `(tactic| repeat walk_at "s")

namespace My
open PySem L2 W
variable {P : Program} {w : World} {K : PySem.W.Frag} {mg : Str → Option Value} {base : Heap} {A : Adr}
/-! draws: only their range matters. The state: its script at c, itself at a -/
def Drw (a c : Addr) (ns : List Int) (H : Hp) : Prop := ∃ i b g : Int, 0 ≤ i ∧ H a = some (.lst [.ref c, .int i, .int b, .int g]) ∧ H c = some (.lst (ns.map V.int))
theorem Drw.keep {S : List Addr} {H H' : Hp} {a d : Addr} {ds : List Int} (h : Drw a d ds H) (k : Keep S H H') (n0 : a ∉ S) (n1 : d ∉ S) : Drw a d ds H' := by
  obtain ⟨i, b, g, hi, h1, h2⟩ := h
  exact ⟨i, b, g, hi, k.get h1 n0, k.get h2 n1⟩
theorem Drw.more {H H' : Hp} {a d : Addr} {ds : List Int} (h : Drw a d ds H) (k : Keep [] H H') : Drw a d ds H' := h.keep k (by simp) (by simp)
theorem Drw.fre {H : Hp} {a d b : Addr} {ds : List Int} (h : Drw a d ds H) (e : H b = none) : b ≠ a ∧ b ≠ d := by
  obtain ⟨i, _, _, hi, h1, h2⟩ := h
  exact ⟨Ne.symm (ne_of_none h1 e), Ne.symm (ne_of_none h2 e)⟩
theorem Drw.ne {H : Hp} {a d : Addr} {ds : List Int} (h : Drw a d ds H) : d ≠ a := by
  obtain ⟨i, _, _, hi, h1, h2⟩ := h
  intro z
  subst z
  rw [h1] at h2
  cases ds with
  | nil => cases h2
  | cons x r => cases h2
theorem Drw.mut {H H' : Hp} {a d b : Addr} {ds : List Int} (h : Drw a d ds H) (k : Keep [b] H H') (n : b ≠ a ∧ b ≠ d) : Drw a d ds H' := h.keep k (by simp [Ne.symm n.1]) (by simp [Ne.symm n.2])
def sp_next (K : PySem.W.Frag) : Sp := fun vs H Q _ => ∃ (a c : Addr) (ns : List Int) (m : Int), vs = [.ref a, .int m] ∧ Drw a c ns H ∧ 0 < m ∧ m < 2 ^ 100 ∧
  ∀ v H', 0 ≤ v → v < m → Keep [a] H H' → Drw a c ns H' → Q (.int v) H'
theorem at_int {ds : List Int} {i : Int} (h : 0 ≤ i) (l : i < ds.length) : ∃ v, atI (ds.map V.int) i = some (.int v) := by
  obtain ⟨n, rfl⟩ := Int.eq_ofNat_of_zero_le h
  refine ⟨ds.getD n 0, atI_nat ?_⟩
  rw [List.getElem?_map, List.getD_eq_getElem?_getD, List.getElem?_eq_getElem (by omega)]; rfl
theorem cdw {i m : Int} (h : 0 < m) (h2 : m < 2 ^ 100) : CDivW i m := wide_div (b := 100) h (by omega) (by decide) (by decide)
theorem ok__law_next (e : Env K mg A) : FnOk P w K mg base CX0 1 A.f__law_next A.d__law_next ["state", "limit"] (sp_next K) := by
  refine e.F__law_next.ok sc__law_next (fun vs H Q E h => ?_) (fun cdv AA outer s H vs Q E hr h => ?_)
  · obtain ⟨a, d, ds, m, rfl, _⟩ := h
    rfl
  · obtain ⟨a, c, ns, m, rfl, hD, hm, hm2, q⟩ := h
    have had := hD.ne
    obtain ⟨i, b, g, hi, ha, hc⟩ := hD
    refine ⟨_, (Evl.pss_cut (ps_if (PW.pt (pw_and (pt_cmpR op_eq (pe_ix (ix_listK (K := K)) (pv 0) pe_int (fun _ _ => rfl)) pe_int (nomark _)) (pw_and1 (pt_cmpR op_lt (pe_ix (ix_listK (K := K)) (pv 0) pe_int (fun _ _ => rfl)) (pe_callB (call_lenLK (K := K)) (by rfl) e.n_len (by decide +kernel) (pa_cons (pe_ix (ix_listK (K := K)) (pv 0) pe_int (fun _ _ => rfl)) pa_nil)) (nomark _))))) (pss_cons (ps_set (i := 2) sc__law_next.nd rfl (Or.inl rfl) (pe_ix (ix_listK (K := K)) (pe_ix (ix_listK (K := K)) (pv 0) pe_int (fun _ _ => rfl)) (pe_ix (ix_listK (K := K)) (pv 0) pe_int (fun _ _ => rfl)) (fun _ _ => rfl)))
    (pss_cons (ps_augS (pv 0) pe_int (get_listK (K := K)) pe_int ip_add set_list)
    (pss_one (ps_if (pt_cmpR op_ge (pv 2) (pe_op op_pow pe_int pe_int) (nomark _)) (pss_one (ps_asg (pv 2) (pg_sub (pv 0) pe_int set_list))) (pss_one (ps_asg (pe_op op_mod (pe_callTy call_int (by rfl) e.n_int (by decide +kernel) (pa_cons (pe_op op_add (pe_op op_add (pe_op op_mul (pe_ix (ix_listK (K := K)) (pv 0) pe_int (fun _ _ => rfl)) pe_int) (pe_op op_mod (pe_callTy call_int (by rfl) e.n_int (by decide +kernel) (pa_cons (pv 2) pa_nil)) pe_int)) pe_int) pa_nil)) pe_int) (pg_sub (pv 0) pe_int set_list))))))) pss_nil)
    (pss_cons (ps_if (pt_cmpR op_gt (pe_ix (ix_listK (K := K)) (pv 0) pe_int (fun _ _ => rfl)) pe_int (nomark _)) (pss_cons (ps_set (i := 3) sc__law_next.nd rfl (Or.inl rfl) (pe_op op_mod (pe_callTy call_int (by rfl) e.n_int (by decide +kernel) (pa_cons (pe_ix (ix_listK (K := K)) (pv 0) pe_int (fun _ _ => rfl)) pa_nil)) (pv 1)))
    (pss_cons (ps_asg (pe_op op_fdivW (pe_ix (ix_listK (K := K)) (pv 0) pe_int (fun _ _ => rfl)) (pv 1)) (pg_sub (pv 0) pe_int set_list))
    (pss_one (ps_ret (pv 3))))) pss_nil)
    (pss_cons (ps_asg (pe_op op_mod (pe_callTy call_int (by rfl) e.n_int (by decide +kernel) (pa_cons (pe_op op_add (pe_op op_mul (pe_ix (ix_listK (K := K)) (pv 0) pe_int (fun _ _ => rfl)) pe_int) pe_int) pa_nil)) pe_int) (pg_sub (pv 0) pe_int set_list))
    (pss_one (ps_ret (pe_op op_mod (pe_callTy call_int (by rfl) e.n_int (by decide +kernel) (pa_cons (pe_op op_fdiv (pe_ix (ix_listK (K := K)) (pv 0) pe_int (fun _ _ => rfl)) pe_int) pa_nil)) (pv 1))))))), ?_⟩
    refine enter (st__law_next _ _) ?_
    walk_at "i"
    refine s_cut (fun σ' H1 => ∃ v2 v3, σ' = [some (.ref a), some (.int m), v2, v3] ∧ Keep [a] H H1 ∧ Drw a c ns H1) ?_ ?_
    · walk_at "r"
      have skip : ∀ (v2 v3 : Option V), ∃ w2 w3, [some (V.ref a), some (V.int m), v2, v3] = [some (V.ref a), some (V.int m), w2, w3] ∧ Keep [a] H H ∧ Drw a c ns H := fun v2 v3 => ⟨_, _, rfl, Keep.refl, i, b, g, hi, ha, hc⟩
      refine ite_dec (fun h0 => ?_) (fun h0 => ?_)
      · walk_at "r"
        rw [List.length_map]
        refine ite_dec (fun hl => ?_) (fun hl => ?_)
        · obtain ⟨v, hv⟩ := at_int hi hl
          walk_at "r"
          intro H1 k1 h1
          have hc1 : H1 c = some (.lst (ns.map V.int)) := k1.get hc (by simp [had])
          skip
          walk_at "r"
          refine ite_dec (fun hv => ?_) (fun hv => ?_)
          · walk_at "r"
            intro H2 k2 h2
            skip
            exact ⟨_, _, rfl, k1.trans k2, _, _, _, by omega, h2, k2.get hc1 (by simp [had])⟩
          · walk_at "r"
            intro H2 k2 h2
            skip
            exact ⟨_, _, rfl, k1.trans k2, _, _, _, by omega, h2, k2.get hc1 (by simp [had])⟩
        · walk_at "r"
          exact skip _ _
      · walk_at "r"
        exact skip _ _
    · rintro σ' H1 ⟨v2, v3, rfl, k1, j, b1, g1, hj, h1, hc1⟩
      walk_at "r"
      refine ite_dec (fun h0 => ?_) (fun h0 => ?_)
      · walk_at "r"
        refine w_I (cdw hm hm2) ?_
        walk_at "r"
        intro H2 k2 h2
        skip
        walk_at "r"
        exact q _ H2 (Int.emod_nonneg _ (by omega)) (Int.emod_lt_of_pos _ hm) (k1.trans k2) ⟨_, _, _, hj, h2, k2.get hc1 (by simp [had])⟩
      · walk_at "r"
        intro H2 k2 h2
        skip
        walk_at "r"
        exact q _ H2 (Int.emod_nonneg _ (by omega)) (Int.emod_lt_of_pos _ hm) (k1.trans k2) ⟨_, _, _, hj, h2, k2.get hc1 (by simp [had])⟩
end My

set_option maxHeartbeats 4000000

namespace My
open PySem L2 W
variable {P : Program} {w : World} {K : PySem.W.Frag} {mg : Str → Option Value} {base : Heap} {A : Adr}
/-! equal data are told to be the same -/
def sp_same : Nat → Sp
  | 0 => fun _ _ _ _ => False
  | n + 1 => fun vs H Q _ => ∃ (x y : V) (d : PyData), vs = [x, y] ∧ Da H d x ∧ Da H d y ∧ dep d ≤ n ∧ wid d ≤ 16777216 ∧ ∀ H', Keep [] H H' → Q (.bl true) H'
theorem ok__law_same (e : Env K mg A) : ∀ n, FnOk P w K mg base CX0 (n + 1) A.f__law_same A.d__law_same ["actual", "expected"] (sp_same n)
  | 0 => ⟨fun _ _ _ _ h => h.elim, fun _ _ _ _ _ _ _ _ _ _ _ _ _ h => h.elim⟩
  | n + 1 => by
    have G__law_same := ok__law_same e n
    refine e.F__law_same.ok sc__law_same (fun vs H Q E h => ?_) (fun cdv AA outer s H vs Q E hr h => ?_)
    · obtain ⟨x, y, d, rfl, _⟩ := h
      rfl
    · obtain ⟨x, y, d, rfl, hx, hy, hd, hw, q⟩ := h
      refine ⟨_, (pss_cons (ps_if (pt_cmpR op_isNo (pv 1) pe_non (nomark _)) (pss_one (ps_ret (pe_cmpR op_isNo (pv 0) pe_non (nomark _)))) pss_nil)
    (pss_cons (ps_if (pt_val (pe_callB (call_isiK (K := K)) (by rfl) e.n_isinstance (by decide +kernel) (pa_cons (pv 1) (pa_cons (pe_bltn (v := .ty "bool") (by rfl) e.n_bool (by decide +kernel) rfl) pa_nil)))) (pss_one (ps_ret (pe_and (pe_callB (call_isiK (K := K)) (by rfl) e.n_isinstance (by decide +kernel) (pa_cons (pv 0) (pa_cons (pe_bltn (v := .ty "bool") (by rfl) e.n_bool (by decide +kernel) rfl) pa_nil))) (pe_one (pe_cmpR op_eq (pv 0) (pv 1) (nomark _)))))) pss_nil)
    (pss_cons (ps_if (pt_val (pe_callB (call_isiK (K := K)) (by rfl) e.n_isinstance (by decide +kernel) (pa_cons (pv 1) (pa_cons (pe_bltn (v := .ty "int") (by rfl) e.n_int (by decide +kernel) rfl) pa_nil)))) (pss_one (ps_ret (pe_and (pe_callB (call_isiK (K := K)) (by rfl) e.n_isinstance (by decide +kernel) (pa_cons (pv 0) (pa_cons (pe_bltn (v := .ty "int") (by rfl) e.n_int (by decide +kernel) rfl) pa_nil))) (pe_and (pe_not (pe_callB (call_isiK (K := K)) (by rfl) e.n_isinstance (by decide +kernel) (pa_cons (pv 0) (pa_cons (pe_bltn (v := .ty "bool") (by rfl) e.n_bool (by decide +kernel) rfl) pa_nil)))) (pe_one (pe_cmpR op_eq (pv 0) (pv 1) (nomark _))))))) pss_nil)
    (pss_cons (ps_if (pt_val (pe_callB (call_isiK (K := K)) (by rfl) e.n_isinstance (by decide +kernel) (pa_cons (pv 1) (pa_cons (pe_bltn (v := .ty "str") (by rfl) e.n_str (by decide +kernel) rfl) pa_nil)))) (pss_one (ps_ret (pe_and (pe_callB (call_isiK (K := K)) (by rfl) e.n_isinstance (by decide +kernel) (pa_cons (pv 0) (pa_cons (pe_bltn (v := .ty "str") (by rfl) e.n_str (by decide +kernel) rfl) pa_nil))) (pe_one (pe_cmpR op_eq (pv 0) (pv 1) (nomark _)))))) pss_nil)
    (pss_cons (ps_if (PW.pt (pw_and (pt_val (pe_callB (call_isiK (K := K)) (by rfl) e.n_isinstance (by decide +kernel) (pa_cons (pv 1) (pa_cons (pe_bltn (v := .ty "tuple") (by rfl) e.n_tuple (by decide +kernel) rfl) pa_nil)))) (pw_and1 (pt_not (pt_val (pe_callB (call_isiK (K := K)) (by rfl) e.n_isinstance (by decide +kernel) (pa_cons (pv 0) (pa_cons (pe_bltn (v := .ty "tuple") (by rfl) e.n_tuple (by decide +kernel) rfl) pa_nil)))))))) (pss_one (ps_ret pe_bl)) pss_nil)
    (pss_cons (ps_if (PW.pt (pw_and (pt_val (pe_callB (call_isiK (K := K)) (by rfl) e.n_isinstance (by decide +kernel) (pa_cons (pv 1) (pa_cons (pe_bltn (v := .ty "list") (by rfl) e.n_list (by decide +kernel) rfl) pa_nil)))) (pw_and1 (pt_not (pt_val (pe_callB (call_isiK (K := K)) (by rfl) e.n_isinstance (by decide +kernel) (pa_cons (pv 0) (pa_cons (pe_bltn (v := .ty "list") (by rfl) e.n_list (by decide +kernel) rfl) pa_nil)))))))) (pss_one (ps_ret pe_bl)) pss_nil)
    (pss_cons (ps_if (pt_cmpR op_ne (pe_callB (call_lenLK (K := K)) (by rfl) e.n_len (by decide +kernel) (pa_cons (pv 0) pa_nil)) (pe_callB (call_lenLK (K := K)) (by rfl) e.n_len (by decide +kernel) (pa_cons (pv 1) pa_nil)) (nomark _)) (pss_one (ps_ret pe_bl)) pss_nil)
    (pss_cons (ps_for PassesOwn.never rfl (pi_range1 rfl e.n_range (pa_cons (pe_callB (call_lenLK (K := K)) (by rfl) e.n_len (by decide +kernel) (pa_cons (pv 1) pa_nil)) pa_nil)) (pg_name (i := 2) sc__law_same.nd rfl (Or.inl rfl)) (pss_one (ps_if (pt_not (pt_val (pe_call G__law_same (hr.mono (by omega)) (by rfl) e.m__law_same e.k__law_same e.b__law_same .nil pass0 (pa_cons (pe_ix (ix_ltK (K := K)) (pv 0) (pv 2) (fun _ _ => rfl)) (pa_cons (pe_ix (ix_ltK (K := K)) (pv 1) (pv 2) (fun _ _ => rfl)) pa_nil))))) (pss_one (ps_ret pe_bl)) pss_nil)))
    (pss_one (ps_ret pe_bl)))))))))), ?_⟩
      refine enter (st__law_same _ _) ?_
      walk_at "i"
      have hx1 := hx
      have hy1 := hy
      have tx := hx1.ty (K := K)
      have ty := hy1.ty (K := K)
      cases d with
      | none =>
        simp only [Da] at hx1 hy1
        simp only [tyName] at tx ty
        subst hx1 hy1
        walk_at "r"
        exact q _ Keep.refl
      | bool b =>
        simp only [Da] at hx1 hy1
        simp only [tyName] at tx ty
        subst hx1 hy1
        walk_at "r"
        simp only [decide_true]
        exact q _ Keep.refl
      | int i =>
        simp only [Da] at hx1 hy1
        simp only [tyName] at tx ty
        subst hx1 hy1
        walk_at "r"
        simp only [decide_true]
        exact q _ Keep.refl
      | str z =>
        simp only [Da] at hx1 hy1
        simp only [tyName] at tx ty
        subst hx1 hy1
        walk_at "r"
        simp only [decide_true]
        exact q _ Keep.refl
      | list ds =>
        simp only [Da] at hx1 hy1
        simp only [tyName] at tx ty
        obtain ⟨a, xs, rfl, ha, hxs⟩ := hx1
        obtain ⟨b, ys, rfl, hb, hys⟩ := hy1
        walk_at "r"
        rw [hxs.len, hys.len]
        walk_at "r"
        rw [hys.len]
        have hz : ds.length ≤ 16777216 := by simp only [wid] at hw; omega
        refine forR1 (by omega) (by omega) (fun i σ H' => ∃ v2, σ = [some (.ref a), some (.ref b), v2] ∧ Keep [] H H') ⟨_, rfl, Keep.refl⟩ ?_ ?_
        · rintro i σ H2 hi ⟨v2, rfl, k2⟩
          have ha2 : H2 a = some (.lst xs) := k2.same _ _ ha
          have hb2 : H2 b = some (.lst ys) := k2.same _ _ hb
          obtain ⟨x, ex⟩ : ∃ x, xs[i]? = some x := ⟨_, List.getElem?_eq_getElem (by have := hxs.len; omega)⟩
          obtain ⟨y, ey⟩ : ∃ y, ys[i]? = some y := ⟨_, List.getElem?_eq_getElem (by have := hys.len; omega)⟩
          have ax := atI_nat ex
          have ay := atI_nat ey
          obtain ⟨d, ed, dx⟩ := hxs.get ex
          obtain ⟨d', ed', dy⟩ := hys.get ey
          rw [ed] at ed'
          cases ed'
          walk_at "r"
          cases n with
          | zero => simp only [dep] at hd; omega
          | succ n =>
            refine ⟨x, y, d, rfl, dx.mono k2.same, dy.mono k2.same, ?_, ?_, fun H3 k3 => ?_⟩
            · have := depL_get ed
              simp only [dep] at hd
              omega
            · have := widL_get ed
              simp only [wid] at hw
              omega
            walk_at "r"
            exact ⟨_, rfl, k2.trans k3⟩
        · rintro σ H2 ⟨v2, rfl, k2⟩
          walk_at "r"
          exact q _ k2
      | tuple ds =>
        simp only [Da] at hx1 hy1
        simp only [tyName] at tx ty
        obtain ⟨a, xs, rfl, ha, hxs⟩ := hx1
        obtain ⟨b, ys, rfl, hb, hys⟩ := hy1
        walk_at "r"
        rw [hxs.len, hys.len]
        walk_at "r"
        rw [hys.len]
        have hz : ds.length ≤ 16777216 := by simp only [wid] at hw; omega
        refine forR1 (by omega) (by omega) (fun i σ H' => ∃ v2, σ = [some (.ref a), some (.ref b), v2] ∧ Keep [] H H') ⟨_, rfl, Keep.refl⟩ ?_ ?_
        · rintro i σ H2 hi ⟨v2, rfl, k2⟩
          have ha2 : H2 a = some (.tup xs) := k2.same _ _ ha
          have hb2 : H2 b = some (.tup ys) := k2.same _ _ hb
          obtain ⟨x, ex⟩ : ∃ x, xs[i]? = some x := ⟨_, List.getElem?_eq_getElem (by have := hxs.len; omega)⟩
          obtain ⟨y, ey⟩ : ∃ y, ys[i]? = some y := ⟨_, List.getElem?_eq_getElem (by have := hys.len; omega)⟩
          have ax := atI_nat ex
          have ay := atI_nat ey
          obtain ⟨d, ed, dx⟩ := hxs.get ex
          obtain ⟨d', ed', dy⟩ := hys.get ey
          rw [ed] at ed'
          cases ed'
          walk_at "r"
          cases n with
          | zero => simp only [dep] at hd; omega
          | succ n =>
            refine ⟨x, y, d, rfl, dx.mono k2.same, dy.mono k2.same, ?_, ?_, fun H3 k3 => ?_⟩
            · have := depL_get ed
              simp only [dep] at hd
              omega
            · have := widL_get ed
              simp only [wid] at hw
              omega
            walk_at "r"
            exact ⟨_, rfl, k2.trans k3⟩
        · rintro σ H2 ⟨v2, rfl, k2⟩
          walk_at "r"
          exact q _ k2
      | dict ds => simp [Da] at hx
end My

set_option maxHeartbeats 4000000
/-! the chunks of a text, in plain Lean -/
namespace My
open W
def isb (c : Nat) : Bool := c == 32 || c == 10
/-- the places where a line starts with no blank: the rest of the text, whether a line starts here, the place -/
def ls : List Nat → Bool → Nat → List Nat
  | [], _, _ => []
  | c :: r, b, p => (if b && !isb c then [p] else []) ++ ls r (c == 10) (p + 1)
def st : List Nat → Bool → Bool
  | [], b => b
  | c :: r, _ => st r (c == 10)
theorem st_app : ∀ (x y : List Nat) (b : Bool), st (x ++ y) b = st y (st x b)
  | [], _, _ => rfl
  | _ :: r, y, _ => st_app r y _
theorem ls_app : ∀ (x y : List Nat) (b : Bool) (p : Nat), ls (x ++ y) b p = ls x b p ++ ls y (st x b) (p + x.length)
  | [], y, b, p => by simp [ls, st]
  | c :: r, y, b, p => by
    show (if b && !isb c then [p] else []) ++ ls (r ++ y) (c == 10) (p + 1) = _
    rw [ls_app r y]
    show _ = ((if b && !isb c then [p] else []) ++ ls r (c == 10) (p + 1)) ++ ls y (st r (c == 10)) (p + (r.length + 1))
    rw [List.append_assoc]
    have e : p + 1 + r.length = p + (r.length + 1) := by omega
    rw [e]
theorem ls_no10 : ∀ (l : List Nat) (p : Nat), 10 ∉ l → ls l false p = []
  | [], _, _ => rfl
  | c :: r, p, h => by
    have hc : ¬ c = 10 := fun e => h (by simp [e])
    have hc2 : (c == 10) = false := by simp [hc]
    show (if false && !isb c then [p] else []) ++ ls r (c == 10) (p + 1) = []
    rw [hc2, ls_no10 r (p + 1) (fun q => h (by simp [q]))]; rfl
theorem st_no10 : ∀ (l : List Nat), 10 ∉ l → st l false = false
  | [], _ => rfl
  | c :: r, h => by
    have hc : ¬ c = 10 := fun e => h (by simp [e])
    have hc2 : (c == 10) = false := by simp [hc]
    show st r (c == 10) = false
    rw [hc2]
    exact st_no10 r (fun q => h (by simp [q]))
/-- lines without a start, the last one ended -/
def Ln (l : List Nat) : Prop := (∀ p, ls l true p = []) ∧ st l true = true
theorem Ln.nil : Ln [] := ⟨fun _ => rfl, rfl⟩
theorem Ln.app {x y : List Nat} (h : Ln x) (k : Ln y) : Ln (x ++ y) := ⟨fun p => by rw [ls_app, h.1, h.2, k.1]; rfl, by rw [st_app, h.2, k.2]⟩
theorem Ln.one : Ln [10] := ⟨fun _ => rfl, rfl⟩
theorem Ln.line {l : List Nat} (h : 10 ∉ l) : Ln ([32] ++ l ++ [10]) := by
  refine ⟨fun p => ?_, ?_⟩
  · rw [ls_app, ls_app]
    show ([] ++ []) ++ ls l false _ ++ ls [10] (st ([32] ++ l) true) _ = []
    rw [ls_no10 _ _ h, st_app]
    show [] ++ [] ++ [] ++ ls [10] (st l false) _ = []
    rw [st_no10 _ h]; rfl
  · rw [st_app]; rfl
/-- one chunk, whole -/
def Ck (c : List Nat) : Prop := (∀ p, ls c true p = [p]) ∧ st c true = true ∧ 2 ≤ c.length
theorem Ck.mk {h : Nat} {l m : List Nat} (h1 : h ≠ 32) (h2 : h ≠ 10) (hl : 10 ∉ l) (hm : Ln m) : Ck ([h] ++ l ++ [10] ++ m) := by
  have hb : isb h = false := by simp [isb, h1, h2]
  have h10 : (h == 10) = false := by simp [h2]
  refine ⟨fun p => ?_, ?_, by simp; omega⟩
  · rw [ls_app, ls_app, ls_app]
    show ((if true && !isb h then [p] else []) ++ [] ++ ls l (h == 10) _ ++ ls [10] (st ([h] ++ l) true) _) ++ ls m (st ([h] ++ l ++ [10]) true) _ = [p]
    rw [hb, h10, ls_no10 _ _ hl, st_app, st_app]
    show ([p] ++ [] ++ [] ++ ls [10] (st l (h == 10)) _) ++ ls m true _ = [p]
    rw [h10, st_no10 _ hl, hm.1]; rfl
  · rw [st_app, st_app]
    exact hm.2
/-- the last one, without its last sign -/
theorem Ck.cut {c : List Nat} (h : Ck c) (p : Nat) : ls (c.take (c.length - 1)) true p = [p] := by
  obtain ⟨h1, _, h3⟩ := h
  match c, h1, h3 with
  | a :: b :: r, h1, _ =>
    have e := h1 p
    have e1 : (a :: b :: r) = (a :: b :: r).take ((a :: b :: r).length - 1) ++ (a :: b :: r).drop ((a :: b :: r).length - 1) := (List.take_append_drop _ _).symm
    rw [e1, ls_app] at e
    have e2 : (a :: b :: r).take ((a :: b :: r).length - 1) = a :: (b :: r).take ((b :: r).length - 1) := by
      show List.take (r.length + 1) (a :: b :: r) = a :: List.take (r.length) (b :: r)
      rfl
    rw [e2] at e ⊢
    have f : ls (a :: (b :: r).take ((b :: r).length - 1)) true p = (if true && !isb a then [p] else []) ++ ls ((b :: r).take ((b :: r).length - 1)) (a == 10) (p + 1) := rfl
    have g : (if true && !isb a then [p] else []) = [p] := by
      have := h1 p
      have g0 : ls (a :: b :: r) true p = (if true && !isb a then [p] else []) ++ ls (b :: r) (a == 10) (p + 1) := rfl
      cases hb : isb a with
      | false => rfl
      | true =>
        exfalso
        rw [g0, hb] at this
        have low : ∀ (x : List Nat) (b : Bool) (q : Nat), ∀ y ∈ ls x b q, q ≤ y := by
          intro x
          induction x with
          | nil => intro b q y hy; simp [ls] at hy
          | cons c t ih =>
            intro b q y hy
            have hy' : y ∈ (if b && !isb c then [q] else []) ++ ls t (c == 10) (q + 1) := hy
            rcases List.mem_append.mp hy' with z | z
            · split at z
              · simp at z; omega
              · simp at z
            · have := ih _ _ _ z; omega
        have m : p ∈ ls (b :: r) (a == 10) (p + 1) := by
          have z : p ∈ ([p] : List Nat) := by simp
          rw [← this] at z
          simpa using z
        have := low _ _ _ _ m
        omega
    rw [f, g] at e ⊢
    have e3 : ls ((b :: r).take ((b :: r).length - 1)) (a == 10) (p + 1) = [] := by
      have e4 := e
      rw [List.append_assoc] at e4
      have e5 := List.append_cancel_left (as := [p]) (bs := _) (cs := []) (by rw [e4]; rfl)
      exact (List.append_eq_nil_iff.mp e5).1
    rw [e3]; rfl
  | [], _, h3 => simp at h3
  | [a], _, h3 => simp at h3
/-- where chunks behind one another start -/
def starts (p : Nat) : List (List Nat) → List Nat
  | [] => []
  | c :: r => p :: starts (p + c.length) r
theorem starts_snoc : ∀ (cs : List (List Nat)) (p : Nat) (c : List Nat), starts p (cs ++ [c]) = starts p cs ++ [p + cs.flatten.length]
  | [], p, c => by simp [starts]
  | x :: r, p, c => by
    show p :: starts (p + x.length) (r ++ [c]) = p :: starts (p + x.length) r ++ _
    rw [starts_snoc r]
    simp [Nat.add_assoc]
theorem starts_len : ∀ (cs : List (List Nat)) (p : Nat), (starts p cs).length = cs.length
  | [], _ => rfl
  | _ :: r, p => by show (starts _ r).length + 1 = _; rw [starts_len r]; rfl
/-- what chunks hands back -/
def part (l : List Nat) (s e : Nat) : List Nat := (l.drop (min s l.length)).take (min e l.length - min s l.length)
def pairs (l : List Nat) : List (Nat × List Nat) := ((ls l true 0).zip ((ls l true 0).drop 1 ++ [l.length])).map fun z => (z.1, part l z.1 z.2)
theorem pairs_of (n : Nat) : ∀ (cs : List (List Nat)) (b l : List Nat), l = b ++ cs.flatten → ((starts b.length cs).zip ((starts b.length cs).drop 1 ++ [l.length])).map (fun z => (z.1, part l z.1 z.2)) = (starts b.length cs).zip cs
  | [], b, l, h => by simp [starts]
  | c :: cs, b, l, h => by
    have ih := pairs_of n cs (b ++ c) l (by rw [h]; simp)
    rw [List.length_append] at ih
    have hp : part l b.length (b.length + c.length) = c := by
      unfold part
      have hl : l.length = b.length + c.length + cs.flatten.length := by rw [h]; simp [Nat.add_assoc]
      have e1 : min b.length l.length = b.length := by omega
      have e2 : min (b.length + c.length) l.length = b.length + c.length := by omega
      rw [e1, e2, h]
      simp
    cases cs with
    | nil =>
      simp only [starts, List.drop_succ_cons, List.drop_zero, List.nil_append, List.drop_nil, List.zip_cons_cons, List.zip_nil_left, List.map_cons, List.map_nil]
      have hl : l.length = b.length + c.length := by rw [h]; simp
      rw [hl, hp]
    | cons d ds =>
      have g : starts b.length (c :: d :: ds) = b.length :: starts (b.length + c.length) (d :: ds) := rfl
      have g2 : starts (b.length + c.length) (d :: ds) = (b.length + c.length) :: starts (b.length + c.length + d.length) ds := rfl
      rw [g, List.drop_succ_cons, List.drop_zero]
      have e : (starts (b.length + c.length) (d :: ds) ++ [l.length]) = (b.length + c.length) :: ((starts (b.length + c.length) (d :: ds)).drop 1 ++ [l.length]) := by rw [g2]; rfl
      rw [e, List.zip_cons_cons, List.map_cons, ih]
      show (b.length, part l b.length (b.length + c.length)) :: _ = _
      rw [hp]; rfl
end My

set_option maxHeartbeats 4000000

namespace My
open PySem L2 W
variable {P : Program} {w : World} {K : PySem.W.Frag} {mg : Str → Option Value} {base : Heap} {A : Adr}
theorem nl_ : Str.ofString "\n" = tx [10] := by decide +kernel
theorem sp_ : Str.ofString " " = tx [32] := by decide +kernel
theorem em_ : Str.ofString "" = tx [] := by decide +kernel
/-- a letter of the law's alphabet -/
def okc (s : Str) : Bool := s.length == 95 && (List.range 95).all fun j => (j == 94 || s.cps.toList.getD j 10 != 10) && (j == 0 || s.cps.toList.getD j 32 != 32)
theorem w_chr {s : Str} {i : Int} {H : Hp} {Q : VK} (h : okc s = true) (q : ∀ c, (i % 95 ≠ 94 → c ≠ 10) → (i % 95 ≠ 0 → c ≠ 32) → Q (.str ⟨#[c]⟩) H) : rIxS (.str s) (.int (i % 95)) H Q := by
  unfold okc at h
  simp only [Bool.and_eq_true, beq_iff_eq, List.all_eq_true, List.mem_range, Bool.or_eq_true, bne_iff_ne] at h
  obtain ⟨hl, h⟩ := h
  obtain ⟨j, hj⟩ := Int.eq_ofNat_of_zero_le (Int.emod_nonneg i (show (95 : Int) ≠ 0 by decide))
  have hj2 : j < 95 := by have := Int.emod_lt_of_pos i (show (0 : Int) < 95 by decide); omega
  have hl2 : s.cps.toList.length = 95 := by rw [← hl]; simp [Str.length]
  have hg : s.cps.toList[j]? = some s.cps.toList[j] := List.getElem?_eq_getElem (by omega)
  obtain ⟨g1, g2⟩ := h j hj2
  simp only [List.getD_eq_getElem?_getD, hg, Option.getD_some] at g1 g2
  rw [hj] at q ⊢
  exact w_ixS (by rw [hl, PySem.sizeLine_eq]; omega) (atI_nat hg) (q _ (fun n e => g1.elim (fun z => n (by omega)) fun z => z e) (fun n e => g2.elim (fun z => n (by omega)) fun z => z e))
def sp_char : Sp := fun vs H Q _ => ∃ i : Int, vs = [.int i] ∧ ∀ c, (i % 95 ≠ 94 → c ≠ 10) → (i % 95 ≠ 0 → c ≠ 32) → Q (.str (tx [c])) H
theorem ok__law_char (e : Env K mg A) : FnOk P w K mg base CX0 1 A.f__law_char A.d__law_char ["index"] sp_char := by
  refine e.F__law_char.ok sc__law_char (fun vs H Q E h => ?_) (fun cdv AA outer s H vs Q E hr h => ?_)
  · obtain ⟨i, rfl, _⟩ := h
    rfl
  · obtain ⟨i, rfl, q⟩ := h
    refine ⟨_, (pss_cons (ps_set (i := 1) sc__law_char.nd rfl (Or.inl rfl) pe_str)
    (pss_cons (ps_set (i := 1) sc__law_char.nd rfl (Or.inl rfl) (pe_op op_addS (pv 1) pe_str))
    (pss_one (ps_ret (pe_ix ix_str (pv 1) (pe_op op_mod (pe_callTy call_int (by rfl) e.n_int (by decide +kernel) (pa_cons (pv 0) pa_nil)) pe_int) (fun _ _ => rfl)))))), ?_⟩
    refine enter (st__law_char _) ?_
    walk_at "i"
    walk_at "r"
    exact w_chr (by decide +kernel) q
def sp_line (K : PySem.W.Frag) : Sp := fun vs H Q _ => ∃ (a c : Addr) (ns : List Int), vs = [.ref a] ∧ Drw a c ns H ∧ ∀ l H', Keep [a] H H' → Drw a c ns H' → 10 ∉ l → l.length ≤ 90 → Q (.str (tx l)) H'
theorem ok__law_line (e : Env K mg A) : FnOk P w K mg base CX0 2 A.f__law_line A.d__law_line ["state"] (sp_line K) := by
  have G__law_next := ok__law_next (P := P) (w := w) (base := base) e
  have G__law_char := ok__law_char (P := P) (w := w) (base := base) e
  refine e.F__law_line.ok sc__law_line (fun vs H Q E h => ?_) (fun cdv AA outer s H vs Q E hr h => ?_)
  · obtain ⟨a, c, ns, rfl, _⟩ := h
    rfl
  · obtain ⟨a, c, ns, rfl, hD, q⟩ := h
    refine ⟨_, (pss_cons (ps_set (i := 1) sc__law_line.nd rfl (Or.inl rfl) pe_str)
    (pss_cons (ps_for PassesOwn.never rfl (pi_range1 rfl e.n_range (pa_cons (pe_call G__law_next (hr.mono (by omega)) (by rfl) e.m__law_next e.k__law_next e.b__law_next .nil pass0 (pa_cons (pv 0) (pa_cons (pe_ix (ix_listK (K := K)) (pe_lst (pa_cons pe_int (pa_cons pe_int (pa_cons pe_int (pa_cons pe_int pa_nil))))) (pe_call G__law_next (hr.mono (by omega)) (by rfl) e.m__law_next e.k__law_next e.b__law_next .nil pass0 (pa_cons (pv 0) (pa_cons pe_int pa_nil))) (fun _ _ => rfl)) pa_nil))) pa_nil)) (pg_name (i := 2) sc__law_line.nd rfl (Or.inl rfl)) (pss_one (ps_set (i := 1) sc__law_line.nd rfl (Or.inl rfl) (pe_op op_addS (pv 1) (pe_call G__law_char (hr.mono (by omega)) (by rfl) e.m__law_char e.k__law_char e.b__law_char .nil pass0 (pa_cons (pe_call G__law_next (hr.mono (by omega)) (by rfl) e.m__law_next e.k__law_next e.b__law_next .nil pass0 (pa_cons (pv 0) (pa_cons pe_int pa_nil))) pa_nil))))))
    (pss_one (ps_ret (pv 1))))), ?_⟩
    refine enter (st__law_line _) ?_
    walk_at "i"
    rw [em_]
    walk_at "r"
    intro p H1 np k1 hp
    have D1 := hD.more k1
    have np1 := hD.fre np
    walk_at "r"
    refine ⟨a, c, ns, 4, rfl, D1, by omega, by omega, fun v H2 v0 v1 k2 D2 => ?_⟩
    have hp2 := k2.get hp (by simp [np1.1])
    have fin : ∀ m : Int, 0 < m → m ≤ 90 → sp_next K ([.ref a, .int m] ++ []) H2 (fun x H1 => tNil [some (.ref a), some (.str (tx [])), none] H1 fun xs H2 => kForR1 (gName 2)
        (tAsg (tOp rAddS (tVar 1) (tCall sp_char [] E0 (tCons (tCall (sp_next K) [] E0 (tCons (tVar 0) (tCons (tC (V.int 94)) tNil))) tNil))) (gName 1))
        { nx := fun σ' H' => tRet (tVar 1) { nx := fun x H' => Q V.non H', rt := Q } σ' H', rt := Q } [some (.ref a), some (.str (tx [])), none] (x :: xs) H2) E0 := by
      intro m m0 m9
      refine ⟨a, c, ns, m, rfl, D2, m0, by omega, fun n H3 n0 n1 k3 D3 => ?_⟩
      walk_at "r"
      refine forR1 (by omega) (by omega) (fun i σ H' => ∃ (v2 : Option V) (l : List Nat), σ = [some (.ref a), some (.str (tx l)), v2] ∧ Keep [a] H H' ∧ Drw a c ns H' ∧ 10 ∉ l ∧ l.length = i)
        ⟨_, [], rfl, k1.any.trans (k2.trans k3), D3, by simp, rfl⟩ ?_ ?_
      · rintro i σ H4 hi ⟨v2, l, rfl, k4, D4, h10, hl⟩
        walk_at "r"
        refine ⟨a, c, ns, 94, rfl, D4, by omega, by omega, fun x H5 x0 x1 k5 D5 => ?_⟩
        walk_at "r"
        refine ⟨x, rfl, fun d d1 d2 => ?_⟩
        have hd : d ≠ 10 := d1 (by omega)
        refine w_addS (by rw [tx_len, tx_len, PySem.sizeLine_eq]; simp; omega) ?_
        rw [tx_app]
        walk_at "r"
        exact ⟨_, l ++ [d], rfl, k4.trans k5, D5, by simp [h10, Ne.symm hd], by simp [hl]⟩
      · rintro σ H4 ⟨v2, l, rfl, k4, D4, h10, hl⟩
        walk_at "r"
        exact q l H4 k4 D4 h10 (by omega)
    rcases (show v = 0 ∨ v = 1 ∨ v = 2 ∨ v = 3 by omega) with rfl | rfl | rfl | rfl
    · walk_at "r"
      exact fin 9 (by omega) (by omega)
    · walk_at "r"
      exact fin 9 (by omega) (by omega)
    · walk_at "r"
      exact fin 9 (by omega) (by omega)
    · walk_at "r"
      exact fin 90 (by omega) (by omega)
def sp_lines (K : PySem.W.Frag) : Sp := fun vs H Q _ => ∃ (a c : Addr) (ns : List Int) (n : Int), vs = [.ref a, .int n] ∧ Drw a c ns H ∧ 0 ≤ n ∧ n ≤ 100 ∧ ∀ l H', Keep [a] H H' → Drw a c ns H' → Ln l → (l.length : Int) ≤ n * 92 → Q (.str (tx l)) H'
theorem ok__law_lines (e : Env K mg A) : FnOk P w K mg base CX0 3 A.f__law_lines A.d__law_lines ["state", "count"] (sp_lines K) := by
  have G__law_next := ok__law_next (P := P) (w := w) (base := base) e
  have G__law_line := ok__law_line (P := P) (w := w) (base := base) e
  refine e.F__law_lines.ok sc__law_lines (fun vs H Q E h => ?_) (fun cdv AA outer s H vs Q E hr h => ?_)
  · obtain ⟨a, c, ns, n, rfl, _⟩ := h
    rfl
  · obtain ⟨a, c, ns, n, rfl, hD, hn0, hn, q⟩ := h
    refine ⟨_, (pss_cons (ps_set (i := 2) sc__law_lines.nd rfl (Or.inl rfl) pe_str)
    (pss_cons (ps_for PassesOwn.never rfl (pi_range1 rfl e.n_range (pa_cons (pv 1) pa_nil)) (pg_name (i := 3) sc__law_lines.nd rfl (Or.inl rfl)) (Evl.pss_cut (ps_if (pt_cmpR op_gt (pe_call G__law_next (hr.mono (by omega)) (by rfl) e.m__law_next e.k__law_next e.b__law_next .nil pass0 (pa_cons (pv 0) (pa_cons pe_int pa_nil))) pe_int (nomark _)) (pss_one (ps_set (i := 2) sc__law_lines.nd rfl (Or.inl rfl) (pe_op op_addS (pe_op op_addS (pv 2) pe_str) (pe_call G__law_line (hr.mono (by omega)) (by rfl) e.m__law_line e.k__law_line e.b__law_line .nil pass0 (pa_cons (pv 0) pa_nil))))) pss_nil)
    (pss_one (ps_set (i := 2) sc__law_lines.nd rfl (Or.inl rfl) (pe_op op_addS (pv 2) pe_str)))))
    (pss_one (ps_ret (pv 2))))), ?_⟩
    refine enter (st__law_lines _ _) ?_
    walk_at "i"
    simp only [em_, nl_, sp_]
    walk_at "r"
    refine forR1 (by omega) (by omega) (fun i σ H' => ∃ (v3 : Option V) (l : List Nat), σ = [some (.ref a), some (.int n), some (.str (tx l)), v3] ∧ Keep [a] H H' ∧ Drw a c ns H' ∧ Ln l ∧ l.length ≤ i * 92)
      ⟨_, [], rfl, Keep.refl, hD, Ln.nil, by simp⟩ ?_ ?_
    · rintro i σ H1 hi ⟨v3, l, rfl, k1, D1, hL, hl⟩
      walk_at "r"
      refine s_cut (fun σ' H' => ∃ m : List Nat, σ' = [some (.ref a), some (.int n), some (.str (tx (l ++ m))), some (.int (i : Int))] ∧ Keep [a] H H' ∧ Drw a c ns H' ∧ m.length ≤ 91 ∧ Ln (m ++ [10])) ?_ ?_
      · walk_at "r"
        refine ⟨a, c, ns, 3, rfl, D1, by omega, by omega, fun x H2 x0 x1 k2 D2 => ?_⟩
        walk_at "r"
        refine ite_dec (fun hx => ?_) (fun hx => ?_)
        · walk_at "r"
          refine w_addS (by rw [tx_len, tx_len, PySem.sizeLine_eq]; simp; omega) ?_
          rw [tx_app]
          walk_at "r"
          refine ⟨a, c, ns, rfl, D2, fun m H3 k3 D3 h10 hm => ?_⟩
          refine w_addS (by rw [tx_len, tx_len, PySem.sizeLine_eq]; simp; omega) ?_
          rw [tx_app, List.append_assoc]
          walk_at "r"
          exact ⟨[32] ++ m, rfl, k1.trans (k2.trans k3), D3, by simp; omega, Ln.line h10⟩
        · walk_at "r"
          exact ⟨[], by simp, k1.trans k2, D2, by simp, Ln.one⟩
      · rintro σ' H2 ⟨m, rfl, k2, D2, hm, hLm⟩
        walk_at "r"
        refine w_addS (by rw [tx_len, tx_len, PySem.sizeLine_eq]; simp; omega) ?_
        rw [tx_app, List.append_assoc]
        walk_at "r"
        exact ⟨_, l ++ (m ++ [10]), rfl, k2, D2, hL.app hLm, by simp; omega⟩
    · rintro σ H1 ⟨v3, l, rfl, k1, D1, hL, hl⟩
      walk_at "r"
      exact q l H1 k1 D1 hL (by omega)
end My

set_option maxHeartbeats 4000000

namespace My
open PySem L2 W
variable {P : Program} {w : World} {K : PySem.W.Frag} {mg : Str → Option Value} {base : Heap} {A : Adr}
theorem w_notin {H : Hp} {Q : VK} {t : Addr} {c : Nat} (h : H t = some (.tup [.str (tx [32]), .str (tx [10])])) (q : Q (.bl (!isb c)) H) : rIn K true (.str ⟨#[c]⟩) (.ref t) H Q := by
  refine ⟨t, _, rfl, .inr (SqT.of h), rfl, rfl, ?_⟩
  have e : inV (.str ⟨#[c]⟩) [.str (tx [32]), .str (tx [10])] = isb c := by
    show (eqV (.str (tx [32])) (.str ⟨#[c]⟩) || (eqV (.str (tx [10])) (.str ⟨#[c]⟩) || false)) = (c == 32 || c == 10)
    have g : ∀ d : Nat, eqV (.str (tx [d])) (.str ⟨#[c]⟩) = (c == d) := fun d => by
      show eqV (.str (tx [d])) (.str (tx [c])) = _
      have z : eqV (.str (tx [d])) (.str (tx [c])) = (tx [d] == tx [c]) := rfl
      rw [z]
      by_cases h : c = d
      · subst h; simp
      · have h2 : ¬ tx [d] = tx [c] := fun z => h (by have := tx_inj z; cases this; rfl)
        rw [beq_eq_false_iff_ne.mpr h2]
        simp [h]
    rw [g, g, Bool.or_false]
  rw [if_pos rfl, e]
  exact q
theorem ls_step {l : List Nat} {i c : Nat} (h : l[i]? = some c) : ls (l.take (i + 1)) true 0 = ls (l.take i) true 0 ++ (if st (l.take i) true && !isb c then [i] else []) := by
  have hi := (List.getElem?_eq_some_iff.mp h).1
  rw [List.take_add_one, h, ls_app]
  show _ ++ ((if st (l.take i) true && !isb c then [0 + (l.take i).length] else []) ++ []) = _
  rw [List.length_take, Nat.min_eq_left (by omega), Nat.zero_add, List.append_nil]
theorem st_step {l : List Nat} {i c : Nat} (h : l[i]? = some c) : st (l.take (i + 1)) true = (c == 10) := by
  rw [List.take_add_one, h, st_app]; rfl
def sp_starts (K : PySem.W.Frag) : Sp := fun vs H Q _ => ∃ l : List Nat, vs = [.str (tx l)] ∧ l.length ≤ 1000000 ∧ ∀ p H', H p = none → Keep [] H H' → H' p = some (.lst ((ls l true 0).map fun n : Nat => V.int (n : Int))) → Q (.ref p) H'
theorem ls_len : ∀ (l : List Nat) (b : Bool) (p : Nat), (ls l b p).length ≤ l.length
  | [], _, _ => by simp [ls]
  | c :: r, b, p => by
    show ((if b && !isb c then [p] else []) ++ ls r (c == 10) (p + 1)).length ≤ _
    have := ls_len r (c == 10) (p + 1)
    rw [List.length_append]
    split <;> simp <;> omega
theorem ok_line_starts (e : Env K mg A) : FnOk P w K mg base CX0 1 A.f_line_starts A.d_line_starts ["text"] (sp_starts K) := by
  refine e.F_line_starts.ok sc_line_starts (fun vs H Q E h => ?_) (fun cdv AA outer s H vs Q E hr h => ?_)
  · obtain ⟨l, rfl, _⟩ := h
    rfl
  · obtain ⟨l, rfl, hl, q⟩ := h
    refine ⟨_, (pss_cons (ps_set (i := 1) sc_line_starts.nd rfl (Or.inl rfl) (pe_lst pa_nil))
    (pss_cons (ps_for PassesOwn.never rfl (pi_range1 rfl e.n_range (pa_cons (pe_callB call_lenS (by rfl) e.n_len (by decide +kernel) (pa_cons (pv 0) pa_nil)) pa_nil)) (pg_name (i := 2) sc_line_starts.nd rfl (Or.inl rfl)) (pss_one (ps_if (PW.pt (pw_and (pt_cmpR (op_notIn_seqK (K := K)) (pe_ix ix_str (pv 0) (pv 2) (fun _ _ => rfl)) (pe_tup (pa_cons pe_str (pa_cons pe_str pa_nil))) (by rfl)) (pw_and1 (PW.pt (pw_or (pt_cmpR op_eq (pv 2) pe_int (nomark _)) (pw_or1 (pt_cmpR op_eq (pe_ix ix_str (pv 0) (pe_op op_sub (pv 2) pe_int) (fun _ _ => rfl)) pe_str (nomark _)))))))) (pss_one (ps_expr (pe_bmK (K := K) PySem.F.plainAttrs_list PySem.F.slot_list_append PySem.F.type_list_append mt_append (pv 1) (pa_cons (pv 2) pa_nil)))) pss_nil)))
    (pss_one (ps_ret (pv 1))))), ?_⟩
    refine enter (st_line_starts _) ?_
    walk_at "i"
    simp only [nl_, sp_]
    have hz : (tx l).length ≤ sizeLine := by rw [tx_len, PySem.sizeLine_eq]; omega
    walk_at "r"
    intro p H1 np k1 hp
    walk_at "r"
    rw [tx_len]
    refine forR1 (by omega) (by omega) (fun i σ H' => ∃ v2 : Option V, σ = [some (.str (tx l)), some (.ref p), v2] ∧ Keep [] H H' ∧ H' p = some (.lst ((ls (l.take i) true 0).map fun n : Nat => V.int (n : Int))))
      ⟨_, rfl, k1, hp⟩ ?_ ?_
    · rintro i σ H2 hi ⟨v2, rfl, k2, h2⟩
      obtain ⟨c, hc⟩ : ∃ c, l[i]? = some c := ⟨_, List.getElem?_eq_getElem (by omega)⟩
      have hlen := ls_len (l.take i) true 0
      rw [List.length_take] at hlen
      have hstep := ls_step hc
      walk_at "r"
      refine w_ixS hz (atI_tx hc) ?_
      walk_at "r"
      intro t H3 nt k3 ht
      refine w_notin ht ?_
      have h3 := k3.get h2 (by simp)
      have no : (st (l.take i) true && !isb c) = false → ∃ v2 : Option V, [some (V.str (tx l)), some (V.ref p), some (V.int (i : Int))] = [some (.str (tx l)), some (.ref p), v2] ∧ Keep [] H H3 ∧ H3 p = some (.lst ((ls (l.take (i + 1)) true 0).map fun n : Nat => V.int (n : Int))) := fun z => by
        refine ⟨_, rfl, k2.trans k3, ?_⟩
        rw [hstep, if_neg (by rw [z]; decide), List.append_nil]
        exact h3
      walk_at "r"
      cases hb : isb c with
      | true =>
        walk_at "r"
        exact no (by rw [hb]; simp)
      | false =>
        walk_at "r"
        have yes : st (l.take i) true = true → ∀ H4, Keep [p] H3 H4 → H4 p = some (.lst ((ls (l.take i) true 0).map (fun n : Nat => V.int (n : Int)) ++ [V.int (i : Int)])) → ∃ v2 : Option V, [some (V.str (tx l)), some (V.ref p), some (V.int (i : Int))] = [some (.str (tx l)), some (.ref p), v2] ∧ Keep [] H H4 ∧ H4 p = some (.lst ((ls (l.take (i + 1)) true 0).map fun n : Nat => V.int (n : Int))) := fun z H4 k4 h4 => by
          refine ⟨_, rfl, (k2.trans k3).mut np k4, ?_⟩
          rw [hstep, if_pos (by rw [z, hb]; rfl), List.map_append]
          exact h4
        refine ite_dec (fun h0 => ?_) (fun h0 => ?_)
        · have e0 : i = 0 := by omega
          walk_at "r"
          intro H4 k4 h4
          exact yes (by rw [e0]; rfl) H4 k4 h4
        · obtain ⟨j, rfl⟩ : ∃ j, i = j + 1 := ⟨i - 1, by omega⟩
          obtain ⟨d, hd⟩ : ∃ d, l[j]? = some d := ⟨_, List.getElem?_eq_getElem (by omega)⟩
          have ej : ((j + 1 : Nat) : Int) - 1 = (j : Int) := by omega
          have hst := st_step hd
          walk_at "r"
          rw [ej]
          refine w_ixS hz (atI_tx hd) ?_
          walk_at "r"
          show if decide (tx [d] = tx [10]) = true then _ else _
          rw [tx_eq]
          refine ite_dec (fun hn => ?_) (fun hn => ?_)
          · have e10 : d = 10 := by cases hn; rfl
            walk_at "r"
            intro H4 k4 h4
            exact yes (by rw [hst, e10]; rfl) H4 k4 h4
          · have e10 : ¬ d = 10 := fun z => hn (by rw [z])
            walk_at "r"
            exact no (by rw [hst]; simp [e10])
    · rintro σ H2 ⟨v2, rfl, k2, h2⟩
      walk_at "r"
      rw [show ((l.length : Nat) : Int).toNat = l.length by simp, List.take_length] at h2
      exact q p H2 np k2 h2
def pairV (z : Nat × List Nat) : List V := [.int (z.1 : Int), .str (tx z.2)]
def sp_chunks (K : PySem.W.Frag) : Sp := fun vs H Q _ => ∃ l : List Nat, vs = [.str (tx l)] ∧ l.length ≤ 1000000 ∧ ∀ p H' us, H p = none → Keep [] H H' → H' p = some (.lst us) → Tups pairV H' us (pairs l) → Q (.ref p) H'
theorem cutV_from (vs : List V) (n : Nat) : cutV vs (some (n : Int)) none = vs.drop n := by
  unfold cutV
  rw [HT.sIx_none, HT.sIx_nat]
  rw [List.take_of_length_le (by rw [List.length_drop]; omega)]
  by_cases h : n ≤ vs.length
  · rw [Nat.min_eq_left h]
  · rw [Nat.min_eq_right (by omega), List.drop_of_length_le (by omega), List.drop_of_length_le (by omega)]
theorem ok_chunks (e : Env K mg A) : FnOk P w K mg base CX0 2 A.f_chunks A.d_chunks ["text"] (sp_chunks K) := by
  have G_line_starts := ok_line_starts (P := P) (w := w) (base := base) e
  refine e.F_chunks.ok sc_chunks (fun vs H Q E h => ?_) (fun cdv AA outer s H vs Q E hr h => ?_)
  · obtain ⟨l, rfl, _⟩ := h
    rfl
  · obtain ⟨l, rfl, hl, q⟩ := h
    refine ⟨_, (pss_cons (ps_set (i := 1) sc_chunks.nd rfl (Or.inl rfl) (pe_call G_line_starts (hr.mono (by omega)) (by rfl) e.m_line_starts e.k_line_starts e.b_line_starts .nil pass0 (pa_cons (pv 0) pa_nil)))
    (pss_cons (ps_set (i := 2) sc_chunks.nd rfl (Or.inl rfl) (pe_op op_cat (pe_slice (sl_listK (K := K)) (pv 1) (po_some pe_int) po_none) (pe_lst (pa_cons (pe_callB call_lenS (by rfl) e.n_len (by decide +kernel) (pa_cons (pv 0) pa_nil)) pa_nil))))
    (pss_one (ps_ret (pe_lc (own := [("start", 3), ("end", 4)]) (by rfl) sc_chunks.nd (pi_zipK (K := K) (by rfl) e.n_zip (pa_cons (pv 1) (pa_cons (pv 2) pa_nil))) (blkOk_by (own := [("start", 3), ("end", 4)]) (N := nm_chunks) (sc := defScope s_chunks) (by decide +kernel)) (fun _ _ _ _ _ => (pg_tupK (K := K) (n := 2) rfl (pgs_cons (pg_name (i := 3) sc_chunks.nd rfl (Or.inl rfl)) (pgs_cons (pg_name (i := 4) sc_chunks.nd rfl (Or.inl rfl)) pgs_nil)))) (fun _ _ _ _ _ => pts_nil) (fun _ _ _ _ _ => (pe_tup (pa_cons (pv 3) (pa_cons (pe_slice sl_str (pv 0) (po_some (pv 3)) (po_some (pv 4))) pa_nil))))))))), ?_⟩
    refine enter (st_chunks _) ?_
    walk_at "i"
    have hz : (tx l).length ≤ sizeLine := by rw [tx_len, PySem.sizeLine_eq]; omega
    have hll := ls_len l true 0
    walk_at "r"
    refine ⟨l, rfl, hl, fun p H1 np k1 hp => ?_⟩
    walk_at "r"
    rw [show ((1 : Int)) = ((1 : Nat) : Int) from rfl, cutV_from]
    intro c H2 nc k2 hc
    walk_at "r"
    rw [tx_len]
    intro d H3 nd k3 hd
    walk_at "r"
    intro b H4 nb k4 hb
    walk_at "r"
    rw [← List.map_drop] at hb
    have hlen : (pairs l).length = (ls l true 0).length := by
      unfold pairs
      rw [List.length_map, List.length_zip, List.length_append, List.length_drop]
      simp
      omega
    have hp4 := (k2.trans (k3.trans k4)).get hp (by simp)
    refine lcZ (n := (ls l true 0).length) (by simp; omega) (SqL.of hp4) (SqL.of hb)
      (fun D i H' => Keep [] H4 H' ∧ ∃ us, H' D = some (.lst us) ∧ Tups pairV H' us ((pairs l).take i))
      (fun D H5 nD k5 h5 => ⟨k5, [], h5, Tups.nil⟩)
      (fun D i H' hi h => ⟨SqL.of (h.1.same _ _ hp4), SqL.of (h.1.same _ _ hb)⟩) ?_ ?_
    · rintro D i x y t H5 H6 nD ex ey ⟨k5, us, h1, h2⟩ nt k6 ht
      obtain ⟨P1, hP1⟩ : ∃ P1, (pairs l)[i]? = some P1 := ⟨_, List.getElem?_eq_getElem (by rw [hlen]; have := (List.getElem?_eq_some_iff.mp ex).1; simpa using this)⟩
      have hz1 : (List.zip (ls l true 0) ((ls l true 0).drop 1 ++ [l.length]))[i]? = some (P1.1, ((ls l true 0).drop 1 ++ [l.length]).getD i 0) ∧ P1.2 = part l P1.1 (((ls l true 0).drop 1 ++ [l.length]).getD i 0) ∧ x = .int (P1.1 : Int) ∧ y = .int ((((ls l true 0).drop 1 ++ [l.length]).getD i 0 : Nat) : Int) := by
        have hi1 : i < (ls l true 0).length := by have := (List.getElem?_eq_some_iff.mp ex).1; simpa using this
        have hi2 : i < ((ls l true 0).drop 1 ++ [l.length]).length := by simp; omega
        have a1 : (ls l true 0)[i]? = some (ls l true 0)[i] := List.getElem?_eq_getElem hi1
        have a2 : ((ls l true 0).drop 1 ++ [l.length])[i]? = some ((ls l true 0).drop 1 ++ [l.length])[i] := List.getElem?_eq_getElem hi2
        have a3 : (List.zip (ls l true 0) ((ls l true 0).drop 1 ++ [l.length]))[i]? = some ((ls l true 0)[i], ((ls l true 0).drop 1 ++ [l.length])[i]) := by
          rw [List.getElem?_zip_eq_some]; exact ⟨a1, a2⟩
        unfold pairs at hP1
        rw [List.getElem?_map, a3] at hP1
        cases hP1
        rw [List.getElem?_map, a1] at ex
        cases ex
        rw [List.getD_eq_getElem?_getD, a2]
        refine ⟨a3, rfl, rfl, ?_⟩
        have e9 : List.map (fun n : Nat => V.int (n : Int)) ((ls l true 0).drop 1) ++ [V.int (l.length : Int)] = List.map (fun n : Nat => V.int (n : Int)) ((ls l true 0).drop 1 ++ [l.length]) := by simp
        rw [e9, List.getElem?_map, a2] at ey
        cases ey
        rfl
      obtain ⟨_, e2, rfl, rfl⟩ := hz1
      walk_at "i"
      walk_at "r"
      rw [cut_tx]
      intro t2 H7 nt2 k7 ht2
      walk_at "r"
      have h7 := (k6.trans k7).get h1 (by simp)
      have hln := h2.len
      rw [List.length_take] at hln
      refine w_rApp h7 (by rw [PySem.sizeLine_eq]; omega) (fun H8 k8 h8 => ?_)
      refine ⟨((k5.trans (k6.trans k7)).mut nD k8), _, h8, ?_⟩
      rw [List.take_add_one, hP1]
      have ht8 : H8 t2 = some (.tup (pairV P1)) := by
        have z : H7 t2 = some (.tup (pairV P1)) := by rw [ht2]; unfold pairV; rw [e2]; rfl
        exact k8.2 _ _ z
      exact Tups.snoc ((h2.keep (k6.trans k7)).keep k8) ht8
    · rintro D H5 nD ⟨k5, us, h1, h2⟩
      walk_at "r"
      have e3 : (pairs l).take (ls l true 0).length = pairs l := by rw [← hlen, List.take_length]
      rw [e3] at h2
      have k9 := k1.trans (k2.trans (k3.trans (k4.trans k5)))
      have nD0 : H D = none := by
        exact Keep.free (k1.trans (k2.trans (k3.trans k4))) nD (by simp)
      exact q D H5 us nD0 k9 h1 h2
end My

set_option maxHeartbeats 4000000

namespace My
open PySem L2 W
variable {P : Program} {w : World} {K : PySem.W.Frag} {mg : Str → Option Value} {base : Heap} {A : Adr}
def sp_law (K : PySem.W.Frag) : Sp := fun vs H Q _ => ∃ (s : Addr) (ns : List Int), vs = [.ref s] ∧ SqL K H s (ns.map V.int) ∧ ns.length ≤ 63 ∧ ∀ H', Q (.bl true) H'
/-- what the law knows of its chunks -/
structure Chs (T B : List Nat) (cs : List (List Nat)) : Prop where
  t : T = B ++ cs.flatten
  s : ls T true 0 = starts B.length cs
  c : ∀ c ∈ cs, c.length ≤ 900
theorem Chs.nil {B : List Nat} (h : Ln B) : Chs B B [] := ⟨by simp, by rw [h.1]; rfl, by simp⟩
theorem Chs.snoc {T B c : List Nat} {cs : List (List Nat)} (h : Chs T B cs) (hs : st T true = true) (hc : ∀ p, ls c true p = [p]) (hl : c.length ≤ 900) : Chs (T ++ c) B (cs ++ [c]) :=
  ⟨by rw [h.t]; simp, by rw [ls_app, h.s, hs, hc, starts_snoc, h.t, List.length_append, Nat.zero_add], fun d hd => by
    rcases List.mem_append.mp hd with z | z
    · exact h.c d z
    · simp at z; subst z; exact hl⟩
theorem flat_le (n : Nat) : ∀ cs : List (List Nat), (∀ c ∈ cs, c.length ≤ n) → cs.flatten.length ≤ cs.length * n
  | [], _ => by simp
  | c :: r, h => by
    have := flat_le n r (fun d hd => h d (by simp [hd]))
    have h1 := h c (by simp)
    simp only [List.flatten_cons, List.length_append, List.length_cons, Nat.add_mul]
    omega
theorem Chs.len {T B : List Nat} {cs : List (List Nat)} (h : Chs T B cs) : T.length ≤ B.length + cs.length * 900 := by
  rw [h.t, List.length_append]
  have := flat_le 900 cs h.c
  omega
theorem Chs.pairs {T B : List Nat} {cs : List (List Nat)} (h : Chs T B cs) : pairs T = (starts B.length cs).zip cs := by
  unfold My.pairs
  rw [h.s]
  exact pairs_of 0 cs B T h.t
def pairD (z : Nat × List Nat) : PyData := .tuple [.int (z.1 : Int), .str (tx z.2)]
theorem daPairs {H : Hp} : ∀ {vs : List V} {xs : List (Nat × List Nat)}, Paired (fun v x => ∃ t, v = V.ref t ∧ H t = some (.tup (pairV x))) vs xs → DaL H (xs.map pairD) vs
  | _, _, .nil => DaL.nil
  | _, _, .cons ⟨t, e, h⟩ r => by
    subst e
    exact DaL.cons (Da.tup h (DaL.cons Da.int (DaL.cons Da.str DaL.nil))) (daPairs r)
theorem depPairs : ∀ xs : List (Nat × List Nat), depL (xs.map pairD) ≤ 1
  | [] => by simp [depL]
  | x :: r => by
    show max (dep (pairD x)) (depL (r.map pairD)) ≤ 1
    have := depPairs r
    have : dep (pairD x) = 1 := rfl
    omega
theorem widPairs : ∀ xs : List (Nat × List Nat), widL (xs.map pairD) ≤ 2
  | [] => by simp [widL]
  | x :: r => by
    show max (wid (pairD x)) (widL (r.map pairD)) ≤ 2
    have := widPairs r
    have : wid (pairD x) = 2 := rfl
    omega
theorem ok_law (e : Env K mg A) : FnOk P w K mg base CX0 6 A.f_law A.d_law ["script"] (sp_law K) := by
  have G__law_next := ok__law_next (P := P) (w := w) (base := base) e
  have G__law_char := ok__law_char (P := P) (w := w) (base := base) e
  have G__law_line := ok__law_line (P := P) (w := w) (base := base) e
  have G__law_lines := ok__law_lines (P := P) (w := w) (base := base) e
  have G_chunks := ok_chunks (P := P) (w := w) (base := base) e
  have G__law_same := ok__law_same (P := P) (w := w) (base := base) e 4
  refine e.F_law.ok sc_law (fun vs H Q E h => ?_) (fun cdv AA outer s H vs Q E hr h => ?_)
  · obtain ⟨a, ns, rfl, _⟩ := h
    rfl
  · obtain ⟨sc0, ns, rfl, hs0, hns, q⟩ := h
    refine ⟨_, (pss_cons (ps_set (i := 1) sc_law.nd rfl (Or.inl rfl) (pe_lst (pa_cons (pe_callTy (call_listLK (K := K)) (by rfl) e.n_list (by decide +kernel) (pa_cons (pv 0) pa_nil)) (pa_cons pe_int (pa_cons pe_int (pa_cons pe_int pa_nil))))))
    (pss_cons (ps_set (i := 2) sc_law.nd rfl (Or.inl rfl) (pe_call G__law_lines (hr.mono (by omega)) (by rfl) e.m__law_lines e.k__law_lines e.b__law_lines .nil pass0 (pa_cons (pv 1) (pa_cons (pe_call G__law_next (hr.mono (by omega)) (by rfl) e.m__law_next e.k__law_next e.b__law_next .nil pass0 (pa_cons (pv 1) (pa_cons pe_int pa_nil))) pa_nil))))
    (pss_cons (ps_set (i := 3) sc_law.nd rfl (Or.inl rfl) (pe_lst pa_nil))
    (pss_cons (ps_set (i := 4) sc_law.nd rfl (Or.inl rfl) (pv 2))
    (pss_cons (ps_set (i := 5) sc_law.nd rfl (Or.inl rfl) (pe_call G__law_next (hr.mono (by omega)) (by rfl) e.m__law_next e.k__law_next e.b__law_next .nil pass0 (pa_cons (pv 1) (pa_cons pe_int pa_nil))))
    (Evl.pss_cut (ps_if (pt_cmpR op_eq (pe_call G__law_next (hr.mono (by omega)) (by rfl) e.m__law_next e.k__law_next e.b__law_next .nil pass0 (pa_cons (pv 1) (pa_cons pe_int pa_nil))) pe_int (nomark _)) (pss_one (ps_set (i := 5) sc_law.nd rfl (Or.inl rfl) (pe_op op_add pe_int (pe_call G__law_next (hr.mono (by omega)) (by rfl) e.m__law_next e.k__law_next e.b__law_next .nil pass0 (pa_cons (pv 1) (pa_cons pe_int pa_nil)))))) pss_nil)
    (pss_cons (ps_for PassesOwn.never rfl (pi_range1 rfl e.n_range (pa_cons (pv 5) pa_nil)) (pg_name (i := 6) sc_law.nd rfl (Or.inl rfl)) (pss_cons (ps_set (i := 7) sc_law.nd rfl (Or.inl rfl) (pe_op op_addS (pe_op op_addS (pe_op op_addS (pe_call G__law_char (hr.mono (by omega)) (by rfl) e.m__law_char e.k__law_char e.b__law_char .nil pass0 (pa_cons (pe_op op_add pe_int (pe_call G__law_next (hr.mono (by omega)) (by rfl) e.m__law_next e.k__law_next e.b__law_next .nil pass0 (pa_cons (pv 1) (pa_cons pe_int pa_nil)))) pa_nil)) (pe_call G__law_line (hr.mono (by omega)) (by rfl) e.m__law_line e.k__law_line e.b__law_line .nil pass0 (pa_cons (pv 1) pa_nil))) pe_str) (pe_call G__law_lines (hr.mono (by omega)) (by rfl) e.m__law_lines e.k__law_lines e.b__law_lines .nil pass0 (pa_cons (pv 1) (pa_cons (pe_call G__law_next (hr.mono (by omega)) (by rfl) e.m__law_next e.k__law_next e.b__law_next .nil pass0 (pa_cons (pv 1) (pa_cons (pe_ix (ix_listK (K := K)) (pe_lst (pa_cons pe_int (pa_cons pe_int pa_nil))) (pe_call G__law_next (hr.mono (by omega)) (by rfl) e.m__law_next e.k__law_next e.b__law_next .nil pass0 (pa_cons (pv 1) (pa_cons pe_int pa_nil))) (fun _ _ => rfl)) pa_nil))) pa_nil)))))
    (Evl.pss_cut (ps_if (PW.pt (pw_and (pt_cmpR op_eq (pv 6) (pe_op op_sub (pv 5) pe_int) (nomark _)) (pw_and1 (pt_cmpR op_eq (pe_call G__law_next (hr.mono (by omega)) (by rfl) e.m__law_next e.k__law_next e.b__law_next .nil pass0 (pa_cons (pv 1) (pa_cons pe_int pa_nil))) pe_int (nomark _))))) (pss_one (ps_set (i := 7) sc_law.nd rfl (Or.inl rfl) (pe_slice sl_str (pv 7) po_none (po_some (pe_op op_sub (pe_callB call_lenS (by rfl) e.n_len (by decide +kernel) (pa_cons (pv 7) pa_nil)) pe_int))))) pss_nil)
    (pss_cons (ps_expr (pe_bmK (K := K) PySem.F.plainAttrs_list PySem.F.slot_list_append PySem.F.type_list_append mt_append (pv 3) (pa_cons (pe_tup (pa_cons (pe_callB call_lenS (by rfl) e.n_len (by decide +kernel) (pa_cons (pv 2) pa_nil)) (pa_cons (pv 7) pa_nil))) pa_nil)))
    (pss_one (ps_set (i := 2) sc_law.nd rfl (Or.inl rfl) (pe_op op_addS (pv 2) (pv 7))))))))
    (pss_cons (ps_set (i := 8) sc_law.nd rfl (Or.inl rfl) (pe_call G_chunks (hr.mono (by omega)) (by rfl) e.m_chunks e.k_chunks e.b_chunks .nil pass0 (pa_cons (pv 2) pa_nil)))
    (pss_cons (ps_if (pt_not (pt_val (pe_call G__law_same (hr.mono (by omega)) (by rfl) e.m__law_same e.k__law_same e.b__law_same .nil pass0 (pa_cons (pv 8) (pa_cons (pv 3) pa_nil))))) (pss_one (ps_ret pe_bl)) pss_nil)
    (pss_one (ps_ret (pe_cmpR op_eq (pe_op op_addS (pv 4) (pe_joinK (K := K) pe_str (pe_lc (own := [("position", 9), ("chunk", 7)]) (by rfl) sc_law.nd (pi_listK (K := K) (pv 8)) (blkOk_by (own := [("position", 9), ("chunk", 7)]) (N := nm_law) (sc := defScope s_law) (by decide +kernel)) (fun _ _ _ _ _ => (pg_tupK (K := K) (n := 2) rfl (pgs_cons (pg_name (i := 9) sc_law.nd rfl (Or.inl rfl)) (pgs_cons (pg_name (i := 7) sc_law.nd rfl (Or.inl rfl)) pgs_nil)))) (fun _ _ _ _ _ => pts_nil) (fun _ _ _ _ _ => (pv 7))))) (pv 2) (nomark _))))))))))))), ?_⟩
    refine enter (st_law _) ?_
    walk_at "i"
    simp only [em_, nl_, sp_]
    walk_at "r"
    intro c H1 nc k1 hc
    walk_at "r"
    intro a H2 na k2 ha
    have D2 : Drw a c ns H2 := ⟨0, 0, 1, by omega, ha, k2.get hc (by simp)⟩
    walk_at "r"
    refine ⟨a, c, ns, 4, rfl, D2, by omega, by omega, fun n0 H3 n00 n01 k3 D3 => ?_⟩
    walk_at "r"
    refine ⟨a, c, ns, n0, rfl, D3, by omega, by omega, fun B H4 k4 D4 hB hBl => ?_⟩
    walk_at "r"
    intro p H5 np k5 hp
    have D5 := D4.more k5
    have npd := D4.fre np
    walk_at "r"
    refine ⟨a, c, ns, 13, rfl, D5, by omega, by omega, fun n1 H6 n10 n11 k6 D6 => ?_⟩
    walk_at "r"
    have hp6 := k6.get hp (by simp [npd.1])
    refine s_cut (fun σ' H' => ∃ n : Int, σ' = [some (.ref sc0), some (.ref a), some (.str (tx B)), some (.ref p), some (.str (tx B)), some (.int n), none, none, none, none] ∧ Drw a c ns H' ∧ H' p = some (.lst []) ∧ 0 ≤ n ∧ n ≤ 150) ?_ ?_
    · walk_at "r"
      refine ⟨a, c, ns, 6, rfl, D6, by omega, by omega, fun n2 H7 n20 n21 k7 D7 => ?_⟩
      have hp7 := k7.get hp6 (by simp [npd.1])
      walk_at "r"
      refine ite_dec (fun hx => ?_) (fun hx => ?_)
      · walk_at "r"
        refine ⟨a, c, ns, 90, rfl, D7, by omega, by omega, fun n3 H8 n30 n31 k8 D8 => ?_⟩
        have hp8 := k8.get hp7 (by simp [npd.1])
        walk_at "r"
        exact ⟨_, rfl, D8, hp8, by omega, by omega⟩
      · walk_at "r"
        exact ⟨_, rfl, D7, hp7, by omega, by omega⟩
    · rintro σ' H7 ⟨n, rfl, D7, hp7, hn0, hn⟩
      walk_at "r"
      have hB3 : B.length ≤ 276 := by omega
      refine forR1 (by omega) (by omega) (fun i σ H' => ∃ (T : List Nat) (cs : List (List Nat)) (us : List V) (v6 v7 : Option V), σ = [some (.ref sc0), some (.ref a), some (.str (tx T)), some (.ref p), some (.str (tx B)), some (.int n), v6, v7, none, none] ∧ Drw a c ns H' ∧
          H' p = some (.lst us) ∧ Tups pairV H' us ((starts B.length cs).zip cs) ∧ Chs T B cs ∧ cs.length = i ∧ ((i : Int) < n → st T true = true))
        ⟨B, [], [], _, _, rfl, D7, hp7, Tups.nil, Chs.nil hB, rfl, fun _ => hB.2⟩ ?_ ?_
      · rintro i σ H8 hi ⟨T, cs, us, v6, v7, rfl, D8, hp8, tu, ch, hcs, hst⟩
        have hst := hst hi
        have hT := ch.len
        walk_at "r"
        refine ⟨a, c, ns, 93, rfl, D8, by omega, by omega, fun x0 H9 x00 x01 k9 D9 => ?_⟩
        walk_at "r"
        refine ⟨1 + x0, rfl, fun hd h10 h32 => ?_⟩
        have h10 := h10 (by omega)
        have h32 := h32 (by omega)
        walk_at "r"
        refine ⟨a, c, ns, rfl, D9, fun l H10 k10 D10 hl10 hll => ?_⟩
        refine w_addS (by rw [tx_len, tx_len, PySem.sizeLine_eq]; simp; omega) ?_
        rw [tx_app]
        walk_at "r"
        refine w_addS (by rw [tx_len, tx_len, PySem.sizeLine_eq]; simp; omega) ?_
        rw [tx_app]
        walk_at "r"
        intro q49 H11 nq k11 h49
        walk_at "r"
        refine ⟨a, c, ns, 2, rfl, D10.more k11, by omega, by omega, fun x1 H12 x10 x11 k12 D12 => ?_⟩
        have nqd := D10.fre nq
        have h49' := k12.get h49 (by simp [nqd.1])
        obtain ⟨m, hm, m0, m9⟩ : ∃ m, atI [V.int 4, V.int 9] x1 = some (.int m) ∧ 0 < m ∧ m ≤ 9 := by
          rcases (show x1 = 0 ∨ x1 = 1 by omega) with rfl | rfl
          · exact ⟨4, rfl, by omega, by omega⟩
          · exact ⟨9, rfl, by omega, by omega⟩
        walk_at "r"
        refine ⟨a, c, ns, m, rfl, D12, m0, by omega, fun x2 H13 x20 x21 k13 D13 => ?_⟩
        walk_at "r"
        refine ⟨a, c, ns, x2, rfl, D13, by omega, by omega, fun lm H14 k14 D14 hLm hml => ?_⟩
        refine w_addS (by rw [tx_len, tx_len, PySem.sizeLine_eq]; simp; omega) ?_
        rw [tx_app]
        have hCk := Ck.mk h32 h10 hl10 hLm
        have hCl : ([hd] ++ l ++ [10] ++ lm).length ≤ 900 := by simp; omega
        generalize [hd] ++ l ++ [10] ++ lm = ck at hCk hCl
        walk_at "r"
        have k814 : Keep [a] H8 H14 := k9.trans (k10.trans (k11.any.trans (k12.trans (k13.trans k14))))
        have hp14 := k814.get hp8 (by simp [npd.1])
        refine s_cut (fun σ' H' => ∃ d : List Nat, σ' = [some (.ref sc0), some (.ref a), some (.str (tx T)), some (.ref p), some (.str (tx B)), some (.int n), some (.int (i : Int)), some (.str (tx d)), none, none] ∧ Drw a c ns H' ∧ Keep [a] H8 H' ∧
          (∀ p, ls d true p = [p]) ∧ d.length ≤ 900 ∧ ((i : Int) + 1 < n → st d true = true)) ?_ ?_
        · walk_at "r"
          refine ite_dec (fun hx => ?_) (fun hx => ?_)
          · walk_at "r"
            refine ⟨a, c, ns, 2, rfl, D14, by omega, by omega, fun x3 H15 x30 x31 k15 D15 => ?_⟩
            walk_at "r"
            refine ite_dec (fun hy => ?_) (fun hy => ?_)
            · walk_at "r"
              refine w_lenS (by rw [tx_len, PySem.sizeLine_eq]; omega) ?_
              rw [tx_len]
              have h2 := hCk.2.2
              walk_at "r"
              rw [show ((ck.length : Nat) : Int) - 1 = ((ck.length - 1 : Nat) : Int) by omega]
              refine w_slS (by rw [tx_len, PySem.sizeLine_eq]; omega) ?_
              rw [cut_tx0]
              walk_at "r"
              exact ⟨_, rfl, D15, k814.trans k15, fun p => hCk.cut p, by rw [List.length_take]; omega, fun z => by omega⟩
            · walk_at "r"
              exact ⟨_, rfl, D15, k814.trans k15, hCk.1, hCl, fun _ => hCk.2.1⟩
          · walk_at "r"
            exact ⟨_, rfl, D14, k814, hCk.1, hCl, fun _ => hCk.2.1⟩
        · rintro σ' H15 ⟨d, rfl, D15, k15, hd1, hd2, hd3⟩
          have hp15 := k15.get hp8 (by simp [npd.1])
          have hus := tu.len
          rw [List.length_zip, starts_len, Nat.min_self, hcs] at hus
          walk_at "r"
          refine w_lenS (by rw [tx_len, PySem.sizeLine_eq]; omega) ?_
          rw [tx_len]
          walk_at "r"
          intro t H16 nt k16 ht
          walk_at "r"
          have hp16 := k16.get hp15 (by simp)
          intro H17 k17 h17
          walk_at "r"
          refine w_addS (by rw [tx_len, tx_len, PySem.sizeLine_eq]; omega) ?_
          rw [tx_app]
          walk_at "r"
          refine ⟨T ++ d, cs ++ [d], _, _, _, rfl, (D15.more k16).mut k17 npd, h17, ?_, ch.snoc hst hd1 hd2, by simp [hcs], fun z => by rw [st_app, hst]; exact hd3 (by omega)⟩
          have et : H17 t = some (.tup (pairV (B.length + cs.flatten.length, d))) := by
            have := k17.2 _ _ ht
            rw [ch.t, List.length_append] at this
            exact this
          have ez : (starts B.length (cs ++ [d])).zip (cs ++ [d]) = (starts B.length cs).zip cs ++ [(B.length + cs.flatten.length, d)] := by
            rw [starts_snoc, List.zip_append (starts_len cs B.length)]; rfl
          rw [ez]
          exact Tups.snoc (((tu.keep k15).keep k16).keep k17) et
      · rintro σ H8 ⟨T, cs, us, v6, v7, rfl, D8, hp8, tu, ch, hcs, _⟩
        have hT := ch.len
        have hcl : cs.length ≤ 150 := by omega
        walk_at "r"
        refine ⟨T, rfl, by omega, fun r H9 vs nr k9 hr9 tv => ?_⟩
        rw [ch.pairs] at tv
        have tu9 := tu.keep k9
        have hp9 := k9.get hp8 (by simp)
        walk_at "r"
        refine ⟨.ref r, .ref p, .list (((starts B.length cs).zip cs).map pairD), rfl, Da.lst hr9 (daPairs tv), Da.lst hp9 (daPairs tu9), ?_, ?_, fun H10 k10 => ?_⟩
        · show depL _ + 1 ≤ 3
          have := depPairs ((starts B.length cs).zip cs)
          omega
        · show max _ (widL _) ≤ _
          have := widPairs ((starts B.length cs).zip cs)
          rw [List.length_map, List.length_zip, starts_len, Nat.min_self]
          omega
        walk_at "r"
        have hr10 := k10.get hr9 (by simp)
        refine lcL (SqL.of hr10) (fun D i H' => Keep [] H10 H' ∧ H' D = some (.lst ((cs.take i).map fun c => V.str (tx c)))) (fun D H2 nD k2 hD => ⟨k2, hD⟩) (fun D i H' _ h => SqL.of (h.1.same _ _ hr10)) ?_ ?_
        · rintro D i x H11 nD ex ⟨k11, h11⟩
          obtain ⟨t, z, rfl, ez, ht⟩ := tv.get ex
          have ht11 := k11.2 _ _ (k10.2 _ _ ht)
          obtain ⟨z1, z2⟩ := z
          have ez2 := (List.getElem?_zip_eq_some.mp ez).2
          walk_at "i"
          unfold pairV at ht11
          walk_at "r"
          have hi := (List.getElem?_eq_some_iff.mp ez2).1
          intro H12 k12 h12
          refine ⟨k11.mut nD k12, ?_⟩
          rw [h12, List.take_add_one, ez2, List.map_append]; rfl
        · rintro D H11 nD ⟨k11, h11⟩
          have hvl := tv.len
          rw [List.length_zip, starts_len, Nat.min_self] at hvl
          rw [hvl, List.take_length] at h11
          walk_at "r"
          refine ⟨tx [], D, cs.map tx, rfl, rfl, .inl (SqL.of (by rw [h11, List.map_map]; rfl)), ?_, ?_⟩
          · have e0 : (tx []).length = 0 := rfl
            rw [e0, Nat.mul_zero, Nat.add_zero, List.map_map]
            have e1 : (cs.map (Str.length ∘ tx)).sum = cs.flatten.length := by
              rw [List.length_flatten, show Str.length ∘ tx = List.length from funext tx_len]
            have := flat_le 900 cs ch.c
            rw [e1]
            omega
          · rw [tx_join]
            have := flat_le 900 cs ch.c
            refine w_addS (by rw [tx_len, tx_len, PySem.sizeLine_eq]; omega) ?_
            rw [tx_app, ← ch.t]
            walk_at "r"
            rw [decide_eq_true rfl]
            exact q _
end My

set_option maxHeartbeats 8000000
namespace My
open PySem L2 W
theorem all_mk {K : PySem.W.Frag} {h : Heap} {mg : Str → Option Value} {fa : Addr} (X : K.In h) (G : h.Ns mainGlobals mg) (hfa : mg "law" = some (.ref fa))
    {od0 an0 : Option Addr} {sl0 : Array (Option Value)} {oc0 kV0 dc0 pm0 cd0 ct0 : Value} {f0 : Addr}
    {od1 an1 : Option Addr} {sl1 : Array (Option Value)} {oc1 kV1 dc1 pm1 cd1 ct1 : Value} {f1 : Addr}
    {od2 an2 : Option Addr} {sl2 : Array (Option Value)} {oc2 kV2 dc2 pm2 cd2 ct2 : Value} {f2 : Addr}
    {od3 an3 : Option Addr} {sl3 : Array (Option Value)} {oc3 kV3 dc3 pm3 cd3 ct3 : Value} {f3 : Addr}
    {od4 an4 : Option Addr} {sl4 : Array (Option Value)} {oc4 kV4 dc4 pm4 cd4 ct4 : Value} {f4 : Addr}
    {od5 an5 : Option Addr} {sl5 : Array (Option Value)} {oc5 kV5 dc5 pm5 cd5 ct5 : Value} {f5 : Addr}
    {od6 an6 : Option Addr} {sl6 : Array (Option Value)} {oc6 kV6 dc6 pm6 cd6 ct6 : Value} {f6 : Addr}
    {od7 an7 : Option Addr} {sl7 : Array (Option Value)} {oc7 kV7 dc7 pm7 cd7 ct7 : Value} {f7 : Addr}
    (a0 : PySem.W.nsIn K mainGlobals "line_starts" = some (some (.ref f0)))
    (l0 : K.lookup f0 = some ⟨oc0, od0, .func (PySem.W.fnOf "line_starts" "line_starts" (defArgs s_line_starts) (defBody s_line_starts) (defScope s_line_starts) .none kV0 dc0 pm0 an0 cd0 ct0), sl0⟩)
    (c0 : PySem.W.codeIn K cd0 "line_starts" = true)
    (k0 : PySem.W.keepIn K (.ref f0) = true)
    (a1 : PySem.W.nsIn K mainGlobals "chunks" = some (some (.ref f1)))
    (l1 : K.lookup f1 = some ⟨oc1, od1, .func (PySem.W.fnOf "chunks" "chunks" (defArgs s_chunks) (defBody s_chunks) (defScope s_chunks) .none kV1 dc1 pm1 an1 cd1 ct1), sl1⟩)
    (c1 : PySem.W.codeIn K cd1 "chunks" = true)
    (k1 : PySem.W.keepIn K (.ref f1) = true)
    (a2 : PySem.W.nsIn K mainGlobals "_law_next" = some (some (.ref f2)))
    (l2 : K.lookup f2 = some ⟨oc2, od2, .func (PySem.W.fnOf "_law_next" "_law_next" (defArgs s__law_next) (defBody s__law_next) (defScope s__law_next) .none kV2 dc2 pm2 an2 cd2 ct2), sl2⟩)
    (c2 : PySem.W.codeIn K cd2 "_law_next" = true)
    (k2 : PySem.W.keepIn K (.ref f2) = true)
    (a3 : PySem.W.nsIn K mainGlobals "_law_same" = some (some (.ref f3)))
    (l3 : K.lookup f3 = some ⟨oc3, od3, .func (PySem.W.fnOf "_law_same" "_law_same" (defArgs s__law_same) (defBody s__law_same) (defScope s__law_same) .none kV3 dc3 pm3 an3 cd3 ct3), sl3⟩)
    (c3 : PySem.W.codeIn K cd3 "_law_same" = true)
    (k3 : PySem.W.keepIn K (.ref f3) = true)
    (a4 : PySem.W.nsIn K mainGlobals "_law_char" = some (some (.ref f4)))
    (l4 : K.lookup f4 = some ⟨oc4, od4, .func (PySem.W.fnOf "_law_char" "_law_char" (defArgs s__law_char) (defBody s__law_char) (defScope s__law_char) .none kV4 dc4 pm4 an4 cd4 ct4), sl4⟩)
    (c4 : PySem.W.codeIn K cd4 "_law_char" = true)
    (k4 : PySem.W.keepIn K (.ref f4) = true)
    (a5 : PySem.W.nsIn K mainGlobals "_law_line" = some (some (.ref f5)))
    (l5 : K.lookup f5 = some ⟨oc5, od5, .func (PySem.W.fnOf "_law_line" "_law_line" (defArgs s__law_line) (defBody s__law_line) (defScope s__law_line) .none kV5 dc5 pm5 an5 cd5 ct5), sl5⟩)
    (c5 : PySem.W.codeIn K cd5 "_law_line" = true)
    (k5 : PySem.W.keepIn K (.ref f5) = true)
    (a6 : PySem.W.nsIn K mainGlobals "_law_lines" = some (some (.ref f6)))
    (l6 : K.lookup f6 = some ⟨oc6, od6, .func (PySem.W.fnOf "_law_lines" "_law_lines" (defArgs s__law_lines) (defBody s__law_lines) (defScope s__law_lines) .none kV6 dc6 pm6 an6 cd6 ct6), sl6⟩)
    (c6 : PySem.W.codeIn K cd6 "_law_lines" = true)
    (k6 : PySem.W.keepIn K (.ref f6) = true)
    (a7 : PySem.W.nsIn K mainGlobals "law" = some (some (.ref f7)))
    (l7 : K.lookup f7 = some ⟨oc7, od7, .func (PySem.W.fnOf "law" "law" (defArgs s_law) (defBody s_law) (defScope s_law) .none kV7 dc7 pm7 an7 cd7 ct7), sl7⟩)
    (c7 : PySem.W.codeIn K cd7 "law" = true)
    (k7 : PySem.W.keepIn K (.ref f7) = true)
    (z_bool : PySem.W.nsIn K mainGlobals "bool" = some none)
    (z_int : PySem.W.nsIn K mainGlobals "int" = some none)
    (z_isinstance : PySem.W.nsIn K mainGlobals "isinstance" = some none)
    (z_len : PySem.W.nsIn K mainGlobals "len" = some none)
    (z_list : PySem.W.nsIn K mainGlobals "list" = some none)
    (z_range : PySem.W.nsIn K mainGlobals "range" = some none)
    (z_str : PySem.W.nsIn K mainGlobals "str" = some none)
    (z_tuple : PySem.W.nsIn K mainGlobals "tuple" = some none)
    (z_zip : PySem.W.nsIn K mainGlobals "zip" = some none) :
    ∃ A : Adr, Env K mg A ∧ A.f_law = fa ∧ ∀ (s : Shared) (v : Value), BindsTo s A.d_law ⟨[v], []⟩ [("script", v)] := by
  have e := hfa.symm.trans (PySem.W.mg_of X G a7)
  cases e
  have F0 := fun_mk (st := s_line_starts) l0 c0 k0
  have F1 := fun_mk (st := s_chunks) l1 c1 k1
  have F2 := fun_mk (st := s__law_next) l2 c2 k2
  have F3 := fun_mk (st := s__law_same) l3 c3 k3
  have F4 := fun_mk (st := s__law_char) l4 c4 k4
  have F5 := fun_mk (st := s__law_line) l5 c5 k5
  have F6 := fun_mk (st := s__law_lines) l6 c6 k6
  have F7 := fun_mk (st := s_law) l7 c7 k7
  exact ⟨{
      f_line_starts := f0,
      d_line_starts := (PySem.W.fnOf "line_starts" "line_starts" (defArgs s_line_starts) (defBody s_line_starts) (defScope s_line_starts) .none kV0 dc0 pm0 an0 cd0 ct0),
      f_chunks := f1,
      d_chunks := (PySem.W.fnOf "chunks" "chunks" (defArgs s_chunks) (defBody s_chunks) (defScope s_chunks) .none kV1 dc1 pm1 an1 cd1 ct1),
      f__law_next := f2,
      d__law_next := (PySem.W.fnOf "_law_next" "_law_next" (defArgs s__law_next) (defBody s__law_next) (defScope s__law_next) .none kV2 dc2 pm2 an2 cd2 ct2),
      f__law_same := f3,
      d__law_same := (PySem.W.fnOf "_law_same" "_law_same" (defArgs s__law_same) (defBody s__law_same) (defScope s__law_same) .none kV3 dc3 pm3 an3 cd3 ct3),
      f__law_char := f4,
      d__law_char := (PySem.W.fnOf "_law_char" "_law_char" (defArgs s__law_char) (defBody s__law_char) (defScope s__law_char) .none kV4 dc4 pm4 an4 cd4 ct4),
      f__law_line := f5,
      d__law_line := (PySem.W.fnOf "_law_line" "_law_line" (defArgs s__law_line) (defBody s__law_line) (defScope s__law_line) .none kV5 dc5 pm5 an5 cd5 ct5),
      f__law_lines := f6,
      d__law_lines := (PySem.W.fnOf "_law_lines" "_law_lines" (defArgs s__law_lines) (defBody s__law_lines) (defScope s__law_lines) .none kV6 dc6 pm6 an6 cd6 ct6),
      f_law := fa,
      d_law := (PySem.W.fnOf "law" "law" (defArgs s_law) (defBody s_law) (defScope s_law) .none kV7 dc7 pm7 an7 cd7 ct7) }, {
      F_line_starts := F0,
      b_line_starts := F0.binds (ps := ["text"]) fun _ _ _ _ _ _ us hl => match us, hl with | [_], _ => rfl,
      m_line_starts := PySem.W.mg_of X G a0,
      k_line_starts := k0,
      F_chunks := F1,
      b_chunks := F1.binds (ps := ["text"]) fun _ _ _ _ _ _ us hl => match us, hl with | [_], _ => rfl,
      m_chunks := PySem.W.mg_of X G a1,
      k_chunks := k1,
      F__law_next := F2,
      b__law_next := F2.binds (ps := ["state", "limit"]) fun _ _ _ _ _ _ us hl => match us, hl with | [_, _], _ => rfl,
      m__law_next := PySem.W.mg_of X G a2,
      k__law_next := k2,
      F__law_same := F3,
      b__law_same := F3.binds (ps := ["actual", "expected"]) fun _ _ _ _ _ _ us hl => match us, hl with | [_, _], _ => rfl,
      m__law_same := PySem.W.mg_of X G a3,
      k__law_same := k3,
      F__law_char := F4,
      b__law_char := F4.binds (ps := ["index"]) fun _ _ _ _ _ _ us hl => match us, hl with | [_], _ => rfl,
      m__law_char := PySem.W.mg_of X G a4,
      k__law_char := k4,
      F__law_line := F5,
      b__law_line := F5.binds (ps := ["state"]) fun _ _ _ _ _ _ us hl => match us, hl with | [_], _ => rfl,
      m__law_line := PySem.W.mg_of X G a5,
      k__law_line := k5,
      F__law_lines := F6,
      b__law_lines := F6.binds (ps := ["state", "count"]) fun _ _ _ _ _ _ us hl => match us, hl with | [_, _], _ => rfl,
      m__law_lines := PySem.W.mg_of X G a6,
      k__law_lines := k6,
      F_law := F7,
      b_law := F7.binds (ps := ["script"]) fun _ _ _ _ _ _ us hl => match us, hl with | [_], _ => rfl,
      m_law := PySem.W.mg_of X G a7,
      k_law := k7,
      n_bool := PySem.W.mg_none_of X G z_bool,
      n_int := PySem.W.mg_none_of X G z_int,
      n_isinstance := PySem.W.mg_none_of X G z_isinstance,
      n_len := PySem.W.mg_none_of X G z_len,
      n_list := PySem.W.mg_none_of X G z_list,
      n_range := PySem.W.mg_none_of X G z_range,
      n_str := PySem.W.mg_none_of X G z_str,
      n_tuple := PySem.W.mg_none_of X G z_tuple,
      n_zip := PySem.W.mg_none_of X G z_zip }, rfl, fun s v => .of_eq rfl⟩
theorem walk {l : PySem.W.OpenLaw} {q : Program} {loose : List Str} {XP : (Str → Option Value) → Heap → Prop} {YP : World → Heap → Prop} {d : DefRec} {K : Params → PySem.W.Frag} (hn : l.most = some 63) (hdf : d.params.defaults = [])
    (hY : ∀ (w : World) (h : Heap), YP w h → (K w.params).In h)
    (F : ∀ (w : World) (mg : Str → Option Value) (fa : Addr) (h : Heap), (K w.params).In h → h.Ns mainGlobals mg → mg d.name = some (.ref fa) →
      ∃ A : Adr, Env (K w.params) mg A ∧ A.f_law = fa ∧ ∀ (s : Shared) (v : Value), BindsTo s A.d_law ⟨[v], []⟩ [("script", v)]) :
    PySem.W.WalkO q loose XP YP l.row.toRowW d [] (fun f vs => PySem.call f vs) :=
  L2.walk_of (n := 63) (k := 6) (x := "script") (CX := fun _ => CX0) (sp := fun w => sp_law (K w.params)) hn (by decide) hdf ⟨rfl, by decide, by decide⟩ hY
    (fun w mg fa h KX G hmg => by
      obtain ⟨A, e, rfl, hb⟩ := F w mg fa h KX G hmg
      exact ⟨A.d_law, hb, fun base _ _ => ok_law e⟩)
    (fun _ _ a ns hl _ hS => ⟨a, ns, rfl, hS, hl, fun _ => rfl⟩) fun _ _ _ _ _ z => z
end My
open PySem PySem.W PyProof.Rows in
set_option maxRecDepth 100000 in
set_option maxHeartbeats 0 in
theorem PySem.Challenge.cw_planwhole_k09_chunks_of_a_text_holds : PySem.Challenge.rw_planwhole_k09_chunks_of_a_text.Holds := by
  w_on; o_law; k_head; (case hw => w_witness2)
  k_fill
  refine My.walk (l := PySem.Challenge.rw_planwhole_k09_chunks_of_a_text) rfl rfl (fun w h Y => PySem.W.kIn_of Y) ?F
  case F =>
    intro w mg fa h KX G hmg
    refine' My.all_mk KX G hmg ?a0 ?l0 ?c0 ?k0 ?a1 ?l1 ?c1 ?k1 ?a2 ?l2 ?c2 ?k2 ?a3 ?l3 ?c3 ?k3 ?a4 ?l4 ?c4 ?k4 ?a5 ?l5 ?c5 ?k5 ?a6 ?l6 ?c6 ?k6 ?a7 ?l7 ?c7 ?k7 ?z_bool ?z_int ?z_isinstance ?z_len ?z_list ?z_range ?z_str ?z_tuple ?z_zip
    (case a0 => k_is)
    (case l0 => k_is)
    (case c0 => k_is)
    (case k0 => k_is)
    (case a1 => k_is)
    (case l1 => k_is)
    (case c1 => k_is)
    (case k1 => k_is)
    (case a2 => k_is)
    (case l2 => k_is)
    (case c2 => k_is)
    (case k2 => k_is)
    (case a3 => k_is)
    (case l3 => k_is)
    (case c3 => k_is)
    (case k3 => k_is)
    (case a4 => k_is)
    (case l4 => k_is)
    (case c4 => k_is)
    (case k4 => k_is)
    (case a5 => k_is)
    (case l5 => k_is)
    (case c5 => k_is)
    (case k5 => k_is)
    (case a6 => k_is)
    (case l6 => k_is)
    (case c6 => k_is)
    (case k6 => k_is)
    (case a7 => k_is)
    (case l7 => k_is)
    (case c7 => k_is)
    (case k7 => k_is)
    (case z_bool => k_is)
    (case z_int => k_is)
    (case z_isinstance => k_is)
    (case z_len => k_is)
    (case z_list => k_is)
    (case z_range => k_is)
    (case z_str => k_is)
    (case z_tuple => k_is)
    (case z_zip => k_is)

