import PyProof.Rows.All
import Wide.All
import OpenK.AllK
import Wide.FinOn
import HandS.ForMost
import HandS.Wide
import HandS.Iter
import HandS.Evl
import HandS.IsInst
import HandS.NoneIn
import HandS.More
import HandS.Walk
import HandS.Codes
import HandS.Exc
import HandS.ExcOwn
import HandS.TryOnly
import HandS.WordsExc
import HandS.TupMul
import PySem.Challenge.RW_planwhole_k13_logs_at_any_cut
set_option Elab.async false
set_option linter.all false
set_option maxRecDepth 100000
section
set_option maxHeartbeats 4000000
/-! W: readings step by step (my own layer over HandS) -/
namespace W
open PySem PySem.Spec L2

/-! ### heaps -/
/-- all but S is as it was -/
def Kp (S : List Addr) (H H' : Hp) : Prop := ∀ b, b ∉ S → H b = none ∨ H' b = H b
/-- every tuple is as it was -/
def Kt (H H' : Hp) : Prop := ∀ b xs, H b = some (.tup xs) → H' b = some (.tup xs)
def Keep (S : List Addr) (H H' : Hp) : Prop := Kp S H H' ∧ Kt H H'
theorem Keep.get {S : List Addr} {H H' : Hp} {b : Addr} {o : HO} (a : Keep S H H') (h : H b = some o) (n : b ∉ S) : H' b = some o := by
  rcases a.1 b n with e | e
  · rw [h] at e; cases e
  · rw [e]; exact h
theorem Keep.of {S : List Addr} {H H' : Hp} (a : ∀ b o, b ∉ S → H b = some o → H' b = some o) (t : Kt H H') : Keep S H H' := ⟨fun b n => by
  cases e : H b with
  | none => exact .inl rfl
  | some o => rw [a b o n e]; exact .inr rfl, t⟩
theorem Keep.refl {S : List Addr} {H : Hp} : Keep S H H := ⟨fun _ _ => .inr rfl, fun _ _ h => h⟩
theorem Keep.trans {S : List Addr} {H H1 H2 : Hp} (a : Keep S H H1) (b : Keep S H1 H2) : Keep S H H2 := Keep.of (fun c o n h => b.get (a.get h n) n) fun c xs h => b.2 c xs (a.2 c xs h)
theorem Keep.mono {S S' : List Addr} {H H' : Hp} (a : Keep S H H') (h : ∀ b ∈ S, b ∈ S') : Keep S' H H' := ⟨fun c n => a.1 c (fun q => n (h c q)), a.2⟩
theorem Keep.mut {S : List Addr} {H H1 H2 : Hp} {p : Addr} (k : Keep S H H1) (np : H p = none) (k2 : Keep [p] H1 H2) : Keep S H H2 :=
  Keep.of (fun c o n h => k2.get (k.get h n) (by
    intro z
    simp at z
    rw [z, np] at h
    cases h)) fun c xs h => k2.2 c xs (k.2 c xs h)
theorem Keep.any {S : List Addr} {H H' : Hp} (a : Keep [] H H') : Keep S H H' := a.mono (by simp)
theorem Keep.same {H H' : Hp} (a : Keep [] H H') : Same H H' := fun b o h => a.get h (by simp)
theorem Same.keep {S : List Addr} {H H' : Hp} (a : Same H H') : Keep S H H' := Keep.of (fun b o _ h => a b o h) fun b xs h => a b _ h
theorem same_new {H : Hp} {p : Addr} {o : HO} (h : H p = none) : Same H (upd H p o) := fun b u e => by rw [upd_ne (ne_of_none e h)]; exact e
theorem Keep.new {S : List Addr} {H : Hp} {p : Addr} {o : HO} (h : H p = none) : Keep S H (upd H p o) := Same.keep (same_new h)
theorem Keep.put {S : List Addr} {H : Hp} {p : Addr} {o : HO} (h : p ∈ S) (nt : ∀ xs, H p ≠ some (.tup xs)) : Keep S H (upd H p o) := Keep.of (fun b u n e => by
  rw [upd_ne (fun q => n (by rw [q]; exact h))]; exact e) fun b xs e => by
  rw [upd_ne (fun q => nt xs (by rw [← q]; exact e))]; exact e
/-- behind H0 an object that H0 does not know changes -/
theorem same_mut {H H' : Hp} {p : Addr} {o : HO} (e : Same H H') (h : H p = none) : Same H (upd H' p o) := fun b u z => by rw [upd_ne (ne_of_none z h)]; exact e b u z
/-- the heap without S -/
def hid (S : List Addr) (H : Hp) : Hp := fun b => if b ∈ S then none else H b
theorem hid_same {S : List Addr} {H : Hp} : Same (hid S H) H := fun b o h => by
  unfold hid at h; split at h
  · cases h
  · exact h
theorem Keep.hid {S : List Addr} {H H' : Hp} (a : Keep S H H') : Same (hid S H) (hid S H') := fun b o h => by
  unfold W.hid at h ⊢; split at h
  · cases h
  · next n => rw [if_neg n]; exact a.get h n
theorem hid_out {S : List Addr} {H : Hp} {b : Addr} {o : HO} (h : H b = some o) (n : b ∉ S) : hid S H b = some o := by unfold hid; rw [if_neg n]; exact h
theorem hid_in {S : List Addr} {H : Hp} {b : Addr} (n : b ∈ S) : hid S H b = none := by unfold hid; rw [if_pos n]
theorem Same.hidden {S : List Addr} {G H : Hp} (s : Same G H) (h : ∀ b ∈ S, G b = none) : Same G (hid S H) := fun b o e => by
  unfold hid; rw [if_neg (fun q => by rw [h b q] at e; cases e)]; exact s b o e
/-- behind a step that keeps all but S, what stands outside of S -/
theorem Keep.behind {S : List Addr} {G H H' : Hp} (a : Keep S H H') (s : Same G H) (h : ∀ b ∈ S, G b = none) : Same G H' := fun b o e => a.get (s b o e) (fun q => by rw [h b q] at e; cases e)
theorem Same.t {K : PySem.W.Frag} {H H' : Hp} {a : Addr} {xs : List V} (e : Same H H') (h : SqT K H a xs) : SqT K H' a xs := by
  rcases h with (h | ⟨o, h⟩) | h
  · exact .inl (.inl (e _ _ h))
  · exact .inl (.inr ⟨o, e _ _ h⟩)
  · exact .inr h

theorem Keep.put0 {H : Hp} {p : Addr} {o : HO} (nt : ∀ xs, H p ≠ some (.tup xs)) : Keep [p] H (upd H p o) := Keep.put (by simp) nt
theorem put_lst {H : Hp} {p : Addr} {o : HO} {xs : List V} (h : H p = some (.lst xs)) : Keep [p] H (upd H p o) := Keep.put0 fun ys e => by rw [h] at e; cases e
theorem put_ins {H : Hp} {p : Addr} {o : HO} {C dx : Addr} {fs : List (Str × V)} (h : H p = some (.ins C dx fs)) : Keep [p] H (upd H p o) := Keep.put0 fun ys e => by rw [h] at e; cases e
theorem carry {H0 H : Hp} {a : Addr} {o : HO} (h : H0 a = some o) (k : H0 a = some o → H a = some o) : H a = some o := k h
theorem carryL {K : PySem.W.Frag} {H0 H : Hp} {a : Addr} {xs : List V} (h : SqL K H0 a xs) (k : Keep [] H0 H) : SqL K H a xs := Same.seq k.same h
theorem carryT {K : PySem.W.Frag} {H0 H : Hp} {a : Addr} {xs : List V} (h : SqT K H0 a xs) (k : Keep [] H0 H) : SqT K H a xs := Same.t k.same h
theorem Keep.free {S : List Addr} {H H' : Hp} {p : Addr} (k : Keep S H H') (h : H' p = none) (n : p ∉ S) : H p = none := by
  cases q : H p with
  | none => rfl
  | some o => rw [k.get q n] at h; cases h
/-! ### statements -/
section
variable {t u : TS} {te ta tb : TE} {g : TG} {c : TT} {nx : St → Hp → Prop} {rt : VK} {bk ct : St → Hp → Prop} {D : Ends} {σ σ0 : St} {H : Hp} {K : PySem.W.Frag}
theorem enter {N : List Str} {vs : List V} (e : start N vs = σ0) (h : t D σ0 H) : t D (start N vs) H := by rw [e]; exact h
theorem s_seq (h : t ⟨fun σ' H' => u ⟨nx, rt, bk, ct⟩ σ' H', rt, bk, ct⟩ σ H) : tSeq t u ⟨nx, rt, bk, ct⟩ σ H := h
theorem s_cut (Mid : St → Hp → Prop) (h : t ⟨Mid, rt, bk, ct⟩ σ H) (k : ∀ σ' H', Mid σ' H' → u ⟨nx, rt, bk, ct⟩ σ' H') : Evl.tCut t u ⟨nx, rt, bk, ct⟩ σ H := ⟨Mid, h, k⟩
theorem s_asg (h : te σ H fun x H1 => g x σ H1 nx) : tAsg te g ⟨nx, rt, bk, ct⟩ σ H := h
theorem s_ret (h : te σ H rt) : tRet te ⟨nx, rt, bk, ct⟩ σ H := h
theorem s_retN (h : rt .non H) : tRetN ⟨nx, rt, bk, ct⟩ σ H := h
theorem s_drop (h : te σ H fun _ H1 => nx σ H1) : tDrop te ⟨nx, rt, bk, ct⟩ σ H := h
theorem s_if (h : c σ H fun b H1 => if b = true then t D σ H1 else u D σ H1) : tIfS c t u D σ H := h
theorem s_next (h : nx σ H) : tNext ⟨nx, rt, bk, ct⟩ σ H := h
theorem s_brk (h : bk σ H) : tBreak ⟨nx, rt, bk, ct⟩ σ H := h
theorem s_cont (h : ct σ H) : tCont ⟨nx, rt, bk, ct⟩ σ H := h
theorem s_aug {i : Nat} {ti : TIp} (h : tVar i σ H fun x _ => te σ H fun y H1 => ti x y H1 fun z H2 => gName i z σ H2 nx) : tAug i te ti ⟨nx, rt, bk, ct⟩ σ H := h
def rSetF (K : PySem.W.Frag) (f : Str) (y x : V) (H : Hp) (Q : Hp → Prop) : Prop := ∃ a C dx fs, x = .ref a ∧ H a = some (.ins C dx fs) ∧ Cls K C ∧ NoAttr K C f ∧ fs.length < 1000 ∧ Q (upd H a (.ins C dx (putF f y fs)))
theorem s_fld {f : Str} (h : tb σ H fun y H1 => ta σ H1 fun x H2 => rSetF K f y x H2 fun H3 => nx σ H3) : sFld K ta tb f ⟨nx, rt, bk, ct⟩ σ H := h
theorem w_setF {f : Str} {y : V} {a C dx : Addr} {fs : List (Str × V)} {Q : Hp → Prop} (h : H a = some (.ins C dx fs)) (c : Cls K C) (n : NoAttr K C f) (l : fs.length < 1000) (q : ∀ H1, Keep [a] H H1 → H1 a = some (.ins C dx (putF f y fs)) → Q H1) : rSetF K f y (.ref a) H Q := ⟨a, C, dx, fs, rfl, h, c, n, l, q _ (put_ins h) upd_same⟩
def rGetF (K : PySem.W.Frag) (f : Str) (x : V) (H : Hp) (Q : VK) : Prop := ∃ a C dx fs v, x = .ref a ∧ H a = some (.ins C dx fs) ∧ Cls K C ∧ NoAttr K C f ∧ fs.lookup f = some v ∧ Q v H
theorem g_sub {to ti : TE} {ts : TSet} {v : V} {P : St → Hp → Prop} (h : to σ H fun o H1 => ti σ H1 fun i H2 => ts o i v H2 fun H3 => P σ H3) : gSub to ti ts v σ H P := h
theorem e_fld {f : Str} {Q : VK} (h : ta σ H fun x H1 => rGetF K f x H1 Q) : tFld K ta f σ H Q := h
theorem w_getF {f : Str} {v : V} {a C dx : Addr} {fs : List (Str × V)} {Q : VK} (h : H a = some (.ins C dx fs)) (c : Cls K C) (n : NoAttr K C f) (l : fs.lookup f = some v) (q : Q v H) : rGetF K f (.ref a) H Q := ⟨a, C, dx, fs, v, rfl, h, c, n, l, q⟩
theorem s_fldaug {f : Str} {rd : V → V → Hp → VK → Prop} (h : ta σ H fun x H1 => ∃ a C dx fs v, x = .ref a ∧ H1 a = some (.ins C dx fs) ∧ Cls K C ∧ NoAttr K C f ∧ fs.lookup f = some v ∧
  tb σ H1 fun y H2 => rd v y H2 fun z H3 => ∃ dx' fs', H3 a = some (.ins C dx' fs') ∧ fs'.length < 1000 ∧ nx σ (upd H3 a (.ins C dx' (putF f z fs')))) : sFldAug K ta tb rd f ⟨nx, rt, bk, ct⟩ σ H := h
theorem s_augS {to ti : TE} {tget : V → V → Hp → VK → Prop} {tip : TIp} {tset : TSet} (h : to σ H fun o H1 => ti σ H1 fun i H2 => tget o i H2 fun x H3 => te σ H3 fun y H4 => tip x y H4 fun z H5 => tset o i z H5 fun H6 => nx σ H6) : tAugS to ti te tget tip tset ⟨nx, rt, bk, ct⟩ σ H := h

/-! ### targets -/
theorem g_0 {v x : V} {a : Option V} {r : St} {Q : St → Hp → Prop} (q : Q (some v :: r) H) : gName 0 v (a :: r) H Q := q
end

section
variable {σ r : St} {H : Hp} {Q : VK} {v x : V} {P : St → Hp → Prop} {a0 a1 a2 a3 a4 a5 a6 a7 a8 a9 a10 a11 a12 a13 a14 a15 a16 a17 : Option V}
theorem v0 (q : Q v H) : tVar 0 (some v :: r) H Q := ⟨v, rfl, q⟩
theorem v1 (q : Q v H) : tVar 1 (a0 :: some v :: r) H Q := ⟨v, rfl, q⟩
theorem v2 (q : Q v H) : tVar 2 (a0 :: a1 :: some v :: r) H Q := ⟨v, rfl, q⟩
theorem v3 (q : Q v H) : tVar 3 (a0 :: a1 :: a2 :: some v :: r) H Q := ⟨v, rfl, q⟩
theorem v4 (q : Q v H) : tVar 4 (a0 :: a1 :: a2 :: a3 :: some v :: r) H Q := ⟨v, rfl, q⟩
theorem v5 (q : Q v H) : tVar 5 (a0 :: a1 :: a2 :: a3 :: a4 :: some v :: r) H Q := ⟨v, rfl, q⟩
theorem v6 (q : Q v H) : tVar 6 (a0 :: a1 :: a2 :: a3 :: a4 :: a5 :: some v :: r) H Q := ⟨v, rfl, q⟩
theorem v7 (q : Q v H) : tVar 7 (a0 :: a1 :: a2 :: a3 :: a4 :: a5 :: a6 :: some v :: r) H Q := ⟨v, rfl, q⟩
theorem v8 (q : Q v H) : tVar 8 (a0 :: a1 :: a2 :: a3 :: a4 :: a5 :: a6 :: a7 :: some v :: r) H Q := ⟨v, rfl, q⟩
theorem v9 (q : Q v H) : tVar 9 (a0 :: a1 :: a2 :: a3 :: a4 :: a5 :: a6 :: a7 :: a8 :: some v :: r) H Q := ⟨v, rfl, q⟩
theorem v10 (q : Q v H) : tVar 10 (a0 :: a1 :: a2 :: a3 :: a4 :: a5 :: a6 :: a7 :: a8 :: a9 :: some v :: r) H Q := ⟨v, rfl, q⟩
theorem v11 (q : Q v H) : tVar 11 (a0 :: a1 :: a2 :: a3 :: a4 :: a5 :: a6 :: a7 :: a8 :: a9 :: a10 :: some v :: r) H Q := ⟨v, rfl, q⟩
theorem v12 (q : Q v H) : tVar 12 (a0 :: a1 :: a2 :: a3 :: a4 :: a5 :: a6 :: a7 :: a8 :: a9 :: a10 :: a11 :: some v :: r) H Q := ⟨v, rfl, q⟩
theorem v13 (q : Q v H) : tVar 13 (a0 :: a1 :: a2 :: a3 :: a4 :: a5 :: a6 :: a7 :: a8 :: a9 :: a10 :: a11 :: a12 :: some v :: r) H Q := ⟨v, rfl, q⟩
theorem v14 (q : Q v H) : tVar 14 (a0 :: a1 :: a2 :: a3 :: a4 :: a5 :: a6 :: a7 :: a8 :: a9 :: a10 :: a11 :: a12 :: a13 :: some v :: r) H Q := ⟨v, rfl, q⟩
theorem v15 (q : Q v H) : tVar 15 (a0 :: a1 :: a2 :: a3 :: a4 :: a5 :: a6 :: a7 :: a8 :: a9 :: a10 :: a11 :: a12 :: a13 :: a14 :: some v :: r) H Q := ⟨v, rfl, q⟩
theorem v16 (q : Q v H) : tVar 16 (a0 :: a1 :: a2 :: a3 :: a4 :: a5 :: a6 :: a7 :: a8 :: a9 :: a10 :: a11 :: a12 :: a13 :: a14 :: a15 :: some v :: r) H Q := ⟨v, rfl, q⟩
theorem v17 (q : Q v H) : tVar 17 (a0 :: a1 :: a2 :: a3 :: a4 :: a5 :: a6 :: a7 :: a8 :: a9 :: a10 :: a11 :: a12 :: a13 :: a14 :: a15 :: a16 :: some v :: r) H Q := ⟨v, rfl, q⟩
theorem g0 (q : P (some v :: r) H) : gName 0 v (a0 :: r) H P := q
theorem g1 (q : P (a0 :: some v :: r) H) : gName 1 v (a0 :: a1 :: r) H P := q
theorem g2 (q : P (a0 :: a1 :: some v :: r) H) : gName 2 v (a0 :: a1 :: a2 :: r) H P := q
theorem g3 (q : P (a0 :: a1 :: a2 :: some v :: r) H) : gName 3 v (a0 :: a1 :: a2 :: a3 :: r) H P := q
theorem g4 (q : P (a0 :: a1 :: a2 :: a3 :: some v :: r) H) : gName 4 v (a0 :: a1 :: a2 :: a3 :: a4 :: r) H P := q
theorem g5 (q : P (a0 :: a1 :: a2 :: a3 :: a4 :: some v :: r) H) : gName 5 v (a0 :: a1 :: a2 :: a3 :: a4 :: a5 :: r) H P := q
theorem g6 (q : P (a0 :: a1 :: a2 :: a3 :: a4 :: a5 :: some v :: r) H) : gName 6 v (a0 :: a1 :: a2 :: a3 :: a4 :: a5 :: a6 :: r) H P := q
theorem g7 (q : P (a0 :: a1 :: a2 :: a3 :: a4 :: a5 :: a6 :: some v :: r) H) : gName 7 v (a0 :: a1 :: a2 :: a3 :: a4 :: a5 :: a6 :: a7 :: r) H P := q
theorem g8 (q : P (a0 :: a1 :: a2 :: a3 :: a4 :: a5 :: a6 :: a7 :: some v :: r) H) : gName 8 v (a0 :: a1 :: a2 :: a3 :: a4 :: a5 :: a6 :: a7 :: a8 :: r) H P := q
theorem g9 (q : P (a0 :: a1 :: a2 :: a3 :: a4 :: a5 :: a6 :: a7 :: a8 :: some v :: r) H) : gName 9 v (a0 :: a1 :: a2 :: a3 :: a4 :: a5 :: a6 :: a7 :: a8 :: a9 :: r) H P := q
theorem g10 (q : P (a0 :: a1 :: a2 :: a3 :: a4 :: a5 :: a6 :: a7 :: a8 :: a9 :: some v :: r) H) : gName 10 v (a0 :: a1 :: a2 :: a3 :: a4 :: a5 :: a6 :: a7 :: a8 :: a9 :: a10 :: r) H P := q
theorem g11 (q : P (a0 :: a1 :: a2 :: a3 :: a4 :: a5 :: a6 :: a7 :: a8 :: a9 :: a10 :: some v :: r) H) : gName 11 v (a0 :: a1 :: a2 :: a3 :: a4 :: a5 :: a6 :: a7 :: a8 :: a9 :: a10 :: a11 :: r) H P := q
theorem g12 (q : P (a0 :: a1 :: a2 :: a3 :: a4 :: a5 :: a6 :: a7 :: a8 :: a9 :: a10 :: a11 :: some v :: r) H) : gName 12 v (a0 :: a1 :: a2 :: a3 :: a4 :: a5 :: a6 :: a7 :: a8 :: a9 :: a10 :: a11 :: a12 :: r) H P := q
theorem g13 (q : P (a0 :: a1 :: a2 :: a3 :: a4 :: a5 :: a6 :: a7 :: a8 :: a9 :: a10 :: a11 :: a12 :: some v :: r) H) : gName 13 v (a0 :: a1 :: a2 :: a3 :: a4 :: a5 :: a6 :: a7 :: a8 :: a9 :: a10 :: a11 :: a12 :: a13 :: r) H P := q
theorem g14 (q : P (a0 :: a1 :: a2 :: a3 :: a4 :: a5 :: a6 :: a7 :: a8 :: a9 :: a10 :: a11 :: a12 :: a13 :: some v :: r) H) : gName 14 v (a0 :: a1 :: a2 :: a3 :: a4 :: a5 :: a6 :: a7 :: a8 :: a9 :: a10 :: a11 :: a12 :: a13 :: a14 :: r) H P := q
theorem g15 (q : P (a0 :: a1 :: a2 :: a3 :: a4 :: a5 :: a6 :: a7 :: a8 :: a9 :: a10 :: a11 :: a12 :: a13 :: a14 :: some v :: r) H) : gName 15 v (a0 :: a1 :: a2 :: a3 :: a4 :: a5 :: a6 :: a7 :: a8 :: a9 :: a10 :: a11 :: a12 :: a13 :: a14 :: a15 :: r) H P := q
end

/-! ### expressions -/
section
variable {σ : St} {H : Hp} {Q : VK} {P : Bool → Hp → Prop} {G : St → Hp → Prop} {ta tb tc te : TE} {tA tB' : TT} {tr : TA} {R : List V → Hp → Prop} {K : PySem.W.Frag} {x y z v : V} {i j : Int} {r r2 : R2}
theorem e_c (q : Q v H) : tC v σ H Q := q
theorem e_op (h : ta σ H fun x H1 => tb σ H1 fun y H2 => r x y H2 Q) : tOp r ta tb σ H Q := h
theorem e_un {r : V → Hp → VK → Prop} (h : ta σ H fun x H1 => r x H1 Q) : tUn r ta σ H Q := h
theorem e_if (h : tA σ H fun c H1 => if c = true then ta σ H1 Q else tb σ H1 Q) : tIf tA ta tb σ H Q := h
theorem e_CB {r : List V → Hp → VK → Prop} (h : tr σ H fun vs H1 => r vs H1 Q) : tCB r tr σ H Q := h
theorem e_call {sp : Sp} {dvs : List V} {E : XK} (h : tr σ H fun vs H1 => sp (vs ++ dvs) H1 Q E) : tCall sp dvs E tr σ H Q := h
def rNewL (xs : List V) (H : Hp) (Q : VK) : Prop := xs.length ≤ sizeLine ∧ ∀ p, H p = none → Q (.ref p) (upd H p (.lst xs))
def rNewT (xs : List V) (H : Hp) (Q : VK) : Prop := xs.length ≤ sizeLine ∧ ∀ p, H p = none → Q (.ref p) (upd H p (.tup xs))
theorem w_newL {xs : List V} (h : xs.length ≤ sizeLine) (q : ∀ p H1, H p = none → Keep [] H H1 → H1 p = some (.lst xs) → Q (.ref p) H1) : rNewL xs H Q := ⟨h, fun p hp => q p _ hp (Keep.new hp) upd_same⟩
theorem w_newT {xs : List V} (h : xs.length ≤ sizeLine) (q : ∀ p H1, H p = none → Keep [] H H1 → H1 p = some (.tup xs) → Q (.ref p) H1) : rNewT xs H Q := ⟨h, fun p hp => q p _ hp (Keep.new hp) upd_same⟩
theorem e_lst (h : tr σ H fun xs H1 => rNewL xs H1 Q) : tLst tr σ H Q := h
theorem e_tup (h : tr σ H fun xs H1 => rNewT xs H1 Q) : tTup tr σ H Q := h
theorem a_nil (h : R [] H) : tNil σ H R := h
theorem a_cons (h : ta σ H fun x H1 => tr σ H1 fun xs H2 => R (x :: xs) H2) : tCons ta tr σ H R := h
theorem e_sl {r : V → Option Int → Option Int → Hp → VK → Prop} {tl th : TO} (h : te σ H fun x H1 => tl σ H1 fun l H2 => th σ H2 fun u H3 => r x l u H3 Q) : tSl r te tl th σ H Q := h
theorem o_none {R : Option Int → Hp → Prop} (h : R none H) : tNoPart σ H R := h
def rPart (x : V) (H : Hp) (R : Option Int → Hp → Prop) : Prop := ∃ i, x = .int i ∧ R (some i) H
theorem o_some {R : Option Int → Hp → Prop} (h : te σ H fun x H1 => rPart x H1 R) : tPart te σ H R := h
theorem w_part {R : Option Int → Hp → Prop} (h : R (some i) H) : rPart (.int i) H R := ⟨i, rfl, h⟩
def rRecv (K : PySem.W.Frag) (T : String) (x : V) (H : Hp) (R : Prop) : Prop := tyV K T x H ∧ R
theorem e_bm {T : String} {r : V → List V → Hp → VK → Prop} (h : te σ H fun x H1 => rRecv K T x H1 (tr σ H1 fun xs H2 => r x xs H2 Q)) : tBM K T r te tr σ H Q := h
theorem e_bm0 {T : String} {r : V → List V → Hp → VK → Prop} (h : te σ H fun x H1 => rRecv K T x H1 (r x [] H1 Q)) : tBM0 K T r te σ H Q := h
def rMeth (C : Addr) (m : Str) (x : V) (H : Hp) (R : Prop) : Prop := ∃ a dx fs, x = .ref a ∧ H a = some (.ins C dx fs) ∧ fs.lookup m = none ∧ R
theorem e_meth {C : Addr} {m : Str} {sp : Sp} {dvs : List V} {E : XK} (h : ta σ H fun x H1 => rMeth C m x H1 (tr σ H1 fun vs H2 => sp (x :: (vs ++ dvs)) H2 Q E)) : tMeth C m sp dvs E ta tr σ H Q := h
theorem w_meth {C : Addr} {m : Str} {a dx : Addr} {fs : List (Str × V)} {R : Prop} (h : H a = some (.ins C dx fs)) (n : fs.lookup m = none) (q : R) : rMeth C m (.ref a) H R := ⟨a, dx, fs, rfl, h, n, q⟩
def rMake (C : Addr) (sp : Sp) (vs : List V) (H : Hp) (E : XK) (Q : VK) : Prop := ∀ x dx, H x = none → H dx = none → dx ≠ x → sp (.ref x :: vs) (upd (upd H dx (.own x)) x (.ins C dx [])) (fun v H2 => v = .non ∧ Q (.ref x) H2) E
theorem e_make {C : Addr} {sp : Sp} {dvs : List V} {E : XK} (h : tr σ H fun vs H1 => rMake C sp (vs ++ dvs) H1 E Q) : tMake C sp dvs E tr σ H Q := h
theorem w_make {C : Addr} {sp : Sp} {vs : List V} {E : XK} (q : ∀ x dx H1, H x = none → Keep [] H H1 → H1 x = some (.ins C dx []) → sp (.ref x :: vs) H1 (fun v H2 => v = .non ∧ Q (.ref x) H2) E) : rMake C sp vs H E Q := fun x dx hx hd ne =>
  q x dx _ hx (Keep.trans (Keep.new hd) (Keep.new (by rw [upd_ne (Ne.symm ne)]; exact hx))) upd_same
/-! tests -/
def rB (x : V) (H : Hp) (P : Bool → Hp → Prop) : Prop := ∃ k, x = .bl k ∧ P k H
theorem t_test (h : te σ H fun x H' => rB x H' P) : tTest te σ H P := h
theorem t_B (h : te σ H fun x H' => rB x H' P) : tB te σ H P := h
theorem w_B {b : Bool} (h : P b H) : rB (.bl b) H P := ⟨b, rfl, h⟩
theorem t_and (h : tA σ H fun c H1 => if c = true then tB' σ H1 P else P false H1) : tAnd tA tB' σ H P := h
theorem t_or (h : tA σ H fun c H1 => if c = true then P true H1 else tB' σ H1 P) : tOr tA tB' σ H P := h
theorem t_not (h : tA σ H fun c H1 => P (!c) H1) : tNot tA σ H P := h
def rBV (x : V) (H : Hp) (R : Bool → Prop) : Prop := ∃ c, x = .bl c ∧ R c
theorem w_BV {b : Bool} {R : Bool → Prop} (h : R b) : rBV (.bl b) H R := ⟨b, rfl, h⟩
theorem e_andV (h : ta σ H fun x H1 => rBV x H1 fun c => if c = true then tb σ H1 Q else Q (.bl false) H1) : tAndV ta tb σ H Q := h
theorem e_orV (h : ta σ H fun x H1 => rBV x H1 fun c => if c = true then Q (.bl true) H1 else tb σ H1 Q) : tOrV ta tb σ H Q := h
theorem e_notV (h : ta σ H fun x H1 => rBV x H1 fun c => Q (.bl (!c)) H1) : tNotV ta σ H Q := h
theorem e_chain (h : ta σ H fun x H1 => tb σ H1 fun y H2 => r x y H2 fun z H3 => rBV z H3 fun k => if k = true then tc σ H3 fun w' H4 => r2 y w' H4 Q else Q (.bl false) H3) : tChain r r2 ta tb tc σ H Q := h
/-! values -/
theorem w_I0 {g : Int → Int → V} (q : Q (g i j) H) : rI0 g (.int i) (.int j) H Q := ⟨i, j, rfl, rfl, q⟩
theorem w_I {C : Int → Int → Prop} {g : Int → Int → V} (c : C i j) (q : Q (g i j) H) : rI C g (.int i) (.int j) H Q := ⟨i, j, rfl, rfl, c, q⟩
theorem w_U {g : Int → V} (q : Q (g i) H) : rU g (.int i) H Q := ⟨i, rfl, q⟩
theorem w_eqI (q : Q (.bl (decide (i = j))) H) : rEq (.int i) (.int j) H Q := ⟨rfl, by
  have e : decide (V.int i = V.int j) = decide (i = j) := by
    by_cases h : i = j
    · subst h; simp
    · rw [decide_eq_false h, decide_eq_false (fun q => h (V.int.inj q))]
  rw [e]; exact q⟩
theorem w_neI (q : Q (.bl (!decide (i = j))) H) : rNe (.int i) (.int j) H Q := ⟨rfl, by
  have e : decide (V.int i = V.int j) = decide (i = j) := by
    by_cases h : i = j
    · subst h; simp
    · rw [decide_eq_false h, decide_eq_false (fun q => h (V.int.inj q))]
  rw [e]; exact q⟩
theorem w_eqS {s t : Str} (q : Q (.bl (decide (s = t))) H) : rEq (.str s) (.str t) H Q := ⟨rfl, by
  have e : decide (V.str s = V.str t) = decide (s = t) := by
    by_cases h : s = t
    · subst h; simp
    · rw [decide_eq_false h, decide_eq_false (fun q => h (V.str.inj q))]
  rw [e]; exact q⟩
theorem w_neS {s t : Str} (q : Q (.bl (!decide (s = t))) H) : rNe (.str s) (.str t) H Q := ⟨rfl, by
  have e : decide (V.str s = V.str t) = decide (s = t) := by
    by_cases h : s = t
    · subst h; simp
    · rw [decide_eq_false h, decide_eq_false (fun q => h (V.str.inj q))]
  rw [e]; exact q⟩
theorem w_eqB {s t : Bool} (q : Q (.bl (decide (s = t))) H) : rEq (.bl s) (.bl t) H Q := ⟨rfl, by
  have e : decide (V.bl s = V.bl t) = decide (s = t) := by
    by_cases h : s = t
    · subst h; simp
    · rw [decide_eq_false h, decide_eq_false (fun q => h (V.bl.inj q))]
  rw [e]; exact q⟩
theorem w_neB {s t : Bool} (q : Q (.bl (!decide (s = t))) H) : rNe (.bl s) (.bl t) H Q := ⟨rfl, by
  have e : decide (V.bl s = V.bl t) = decide (s = t) := by
    by_cases h : s = t
    · subst h; simp
    · rw [decide_eq_false h, decide_eq_false (fun q => h (V.bl.inj q))]
  rw [e]; exact q⟩
theorem w_neN (q : Q (.bl true) H) : rNe (.int i) .non H Q := ⟨rfl, q⟩
theorem w_eqN (q : Q (.bl false) H) : rEq (.int i) .non H Q := ⟨rfl, q⟩
theorem w_ixL {p : Addr} {xs : List V} {n : Nat} (h : SqL K H p xs) (e : atI xs i = some v) (q : Q v H) : rIxL K (.ref p) (.int i) H Q := ⟨p, xs, i, v, rfl, rfl, h, e, q⟩
theorem w_ixT {p : Addr} {xs : List V} {n : Nat} (h : SqT K H p xs) (e : atI xs i = some v) (q : Q v H) : rIxT K (.ref p) (.int i) H Q := ⟨p, xs, i, v, rfl, rfl, h, e, q⟩
theorem w_aug {f : Int → Int → Int} (q : Q (.int (f i j)) H) : ipI f (.int i) (.int j) H Q := ⟨i, j, rfl, rfl, q⟩
theorem w_app {l : Addr} {xs : List V} (h : H l = some (.lst xs)) (z : xs.length < sizeLine) (q : ∀ H1, Keep [l] H H1 → H1 l = some (.lst (xs ++ [y])) → Q .non H1) : rAppend (.ref l) [y] H Q := ⟨l, xs, y, rfl, rfl, h, z, q _ (put_lst h) upd_same⟩
theorem w_ext {l b : Addr} {xs zs : List V} (h : H l = some (.lst xs)) (h2 : H b = some (.lst zs)) (z : xs.length + zs.length ≤ sizeLine) (q : ∀ H1, Keep [l] H H1 → H1 l = some (.lst (xs ++ zs)) → Q .non H1) : rExtend (.ref l) [.ref b] H Q := ⟨l, b, xs, zs, rfl, rfl, h, h2, z, q _ (put_lst h) upd_same⟩
theorem w_recv {l : Addr} {xs : List V} {R : Prop} (h : SqL K H l xs) (q : R) : rRecv K "list" (.ref l) H R := ⟨.inl ⟨rfl, xs, h⟩, q⟩
theorem w_tyL {l : Addr} {xs : List V} (h : SqL K H l xs) : tyV K "list" (.ref l) H := .inl ⟨rfl, xs, h⟩
end

/-! ### built-ins by names of their own -/
def rLen (K : PySem.W.Frag) : List V → Hp → VK → Prop := fun xs H Q => ∃ p ys, xs = [.ref p] ∧ (SqL K H p ys ∨ SqT K H p ys) ∧ Q (.int ys.length) H
def rLenS : List V → Hp → VK → Prop := fun xs H Q => ∃ z : Str, xs = [.str z] ∧ z.length ≤ sizeLine ∧ Q (.int z.length) H
def rListL (K : PySem.W.Frag) : List V → Hp → VK → Prop := fun xs H Q => ∃ p ys, xs = [.ref p] ∧ (SqL K H p ys ∨ SqT K H p ys) ∧ ∀ l, H l = none → Q (.ref l) (upd H l (.lst ys))
def rTupL (K : PySem.W.Frag) : List V → Hp → VK → Prop := fun xs H Q => ∃ p ys, xs = [.ref p] ∧ ((SqL K H p ys ∧ ∀ l, H l = none → Q (.ref l) (upd H l (.tup ys))) ∨ (SqT K H p ys ∧ Q (.ref p) H))
def rInt1 : List V → Hp → VK → Prop := fun xs H Q => (∃ i, xs = [.int i] ∧ Q (.int i) H) ∨ ∃ k, xs = [.bl k] ∧ Q (.int (if k then 1 else 0)) H
def rMin2 : List V → Hp → VK → Prop := fun xs H Q => ∃ i j, xs = [.int i, .int j] ∧ Q (.int (if j < i then j else i)) H
def rMax2 : List V → Hp → VK → Prop := fun xs H Q => ∃ i j, xs = [.int i, .int j] ∧ Q (.int (if j > i then j else i)) H
def rIsNo : R2 := fun x y H Q => y = .non ∧ Q (.bl (decide (x = .non))) H
def rIsNot : R2 := fun x y H Q => y = .non ∧ Q (.bl (!decide (x = .non))) H
def rAddS : R2 := fun x y H Q => ∃ i j, x = .str i ∧ y = .str j ∧ i.length + j.length ≤ sizeLine ∧ Q (.str (i ++ j)) H
def rIxLT (K : PySem.W.Frag) : R2 := fun x y H Q => rIxL K x y H Q ∨ rIxT K x y H Q
section
variable {X : Cx}
theorem call_lenL : CallR X (.builtin "len") (rLen X.K) := call_len_seq
theorem call_lenS : CallR X (.builtin "len") rLenS := call_len_str
theorem call_listL : CallR X (.type "list") (rListL X.K) := call_list_of
theorem call_tupleL : CallR X (.type "tuple") (rTupL X.K) := call_tuple_of
theorem call_int : CallR X (.type "int") rInt1 := call_int1
theorem call_min (hc : X.calm = true) : CallR X (.builtin "min") rMin2 := call_min2 hc
theorem call_max (hc : X.calm = true) : CallR X (.builtin "max") rMax2 := call_max2 hc
theorem op_isNo : OpR X (compareOp .Is) rIsNo := op_isN
theorem op_isNot : OpR X (compareOp .IsNot) rIsNot := op_notN
theorem op_addS : OpR X (binaryOp .Add) rAddS := op_add_str
theorem ix_lt : IxR X (rIxLT X.K) := ix_list.or ix_tup
end
section
variable {H : Hp} {Q : VK} {K : PySem.W.Frag} {p : Addr} {ys : List V}
theorem w_int {i : Int} (q : Q (.int i) H) : rInt1 [.int i] H Q := .inl ⟨i, rfl, q⟩
theorem w_intB {k : Bool} (q : Q (.int (if k then 1 else 0)) H) : rInt1 [.bl k] H Q := .inr ⟨k, rfl, q⟩
theorem w_min {i j : Int} (q : Q (.int (if j < i then j else i)) H) : rMin2 [.int i, .int j] H Q := ⟨i, j, rfl, q⟩
theorem w_max {i j : Int} (q : Q (.int (if j > i then j else i)) H) : rMax2 [.int i, .int j] H Q := ⟨i, j, rfl, q⟩
theorem w_isN (q : Q (.bl true) H) : rIsNo .non .non H Q := ⟨rfl, q⟩
theorem w_isI {i : Int} (q : Q (.bl false) H) : rIsNo (.int i) .non H Q := ⟨rfl, q⟩
theorem w_isS {z : Str} (q : Q (.bl false) H) : rIsNo (.str z) .non H Q := ⟨rfl, q⟩
theorem w_isB {b : Bool} (q : Q (.bl false) H) : rIsNo (.bl b) .non H Q := ⟨rfl, q⟩
theorem w_isR {a : Addr} (q : Q (.bl false) H) : rIsNo (.ref a) .non H Q := ⟨rfl, q⟩
theorem w_notN (q : Q (.bl false) H) : rIsNot .non .non H Q := ⟨rfl, q⟩
theorem w_notI {i : Int} (q : Q (.bl true) H) : rIsNot (.int i) .non H Q := ⟨rfl, q⟩
theorem w_notR {a : Addr} (q : Q (.bl true) H) : rIsNot (.ref a) .non H Q := ⟨rfl, q⟩
theorem w_notS {z : Str} (q : Q (.bl true) H) : rIsNot (.str z) .non H Q := ⟨rfl, q⟩
theorem w_addS {s t : Str} (h : s.length + t.length ≤ sizeLine) (q : Q (.str (s ++ t)) H) : rAddS (.str s) (.str t) H Q := ⟨s, t, rfl, rfl, h, q⟩
theorem w_eqNI {j : Int} (q : Q (.bl false) H) : rEq .non (.int j) H Q := ⟨rfl, q⟩
theorem w_neNI {j : Int} (q : Q (.bl true) H) : rNe .non (.int j) H Q := ⟨rfl, q⟩
theorem w_ixLTl {xs : List V} {i : Int} {v : V} (h : SqL K H p xs) (e : atI xs i = some v) (q : Q v H) : rIxLT K (.ref p) (.int i) H Q := .inl ⟨p, xs, i, v, rfl, rfl, h, e, q⟩
theorem w_ixLTt {xs : List V} {i : Int} {v : V} (h : SqT K H p xs) (e : atI xs i = some v) (q : Q v H) : rIxLT K (.ref p) (.int i) H Q := .inr ⟨p, xs, i, v, rfl, rfl, h, e, q⟩
theorem w_set {xs : List V} {k : Int} {v : V} {j : Nat} {R : Hp → Prop} (h : H p = some (.lst xs)) (e : ixN xs.length k = some j) (q : ∀ H1, Keep [p] H H1 → H1 p = some (.lst (xs.set j v)) → R H1) : rSetL (.ref p) (.int k) v H R := ⟨p, xs, k, j, rfl, rfl, h, e, q _ (put_lst h) upd_same⟩
theorem w_cat {a b : Addr} {xs zs : List V} (h : H a = some (.lst xs)) (h2 : H b = some (.lst zs)) (z : xs.length + zs.length ≤ sizeLine) (q : ∀ l H1, H l = none → Keep [] H H1 → H1 l = some (.lst (xs ++ zs)) → Q (.ref l) H1) : rCat (.ref a) (.ref b) H Q := ⟨a, b, xs, zs, rfl, rfl, h, h2, z, fun l hl => q l _ hl (Keep.new hl) upd_same⟩
theorem w_slL {xs : List V} {lo hi : Option Int} (h : SqL K H p xs) (q : ∀ l H1, H l = none → Keep [] H H1 → H1 l = some (.lst (cutV xs lo hi)) → Q (.ref l) H1) : rSlL K (.ref p) lo hi H Q := ⟨p, xs, rfl, h, fun l hl => q l _ hl (Keep.new hl) upd_same⟩
theorem w_slS {z : Str} {lo hi : Option Int} (h : z.length ≤ sizeLine) (q : Q (.str (cutS z lo hi)) H) : rSlS (.str z) lo hi H Q := ⟨z, rfl, h, q⟩
theorem w_ixS {z : Str} {i : Int} {c : Nat} (h : z.length ≤ sizeLine) (e : atI z.cps.toList i = some c) (q : Q (.str ⟨#[c]⟩) H) : rIxS (.str z) (.int i) H Q := ⟨z, i, c, rfl, rfl, h, e, q⟩
theorem w_lenL (h : SqL K H p ys) (q : Q (.int ys.length) H) : rLen K [.ref p] H Q := ⟨p, ys, rfl, .inl h, q⟩
theorem w_lenT (h : SqT K H p ys) (q : Q (.int ys.length) H) : rLen K [.ref p] H Q := ⟨p, ys, rfl, .inr h, q⟩
theorem w_lenS {z : Str} (h : z.length ≤ sizeLine) (q : Q (.int z.length) H) : rLenS [.str z] H Q := ⟨z, rfl, h, q⟩
theorem w_listL (h : SqL K H p ys) (q : ∀ l H1, H l = none → Keep [] H H1 → H1 l = some (.lst ys) → Q (.ref l) H1) : rListL K [.ref p] H Q := ⟨p, ys, rfl, .inl h, fun l hl => q l _ hl (Keep.new hl) upd_same⟩
theorem w_listT (h : SqT K H p ys) (q : ∀ l H1, H l = none → Keep [] H H1 → H1 l = some (.lst ys) → Q (.ref l) H1) : rListL K [.ref p] H Q := ⟨p, ys, rfl, .inr h, fun l hl => q l _ hl (Keep.new hl) upd_same⟩
theorem w_tupL (h : SqL K H p ys) (q : ∀ l H1, H l = none → Keep [] H H1 → H1 l = some (.tup ys) → Q (.ref l) H1) : rTupL K [.ref p] H Q := ⟨p, ys, rfl, .inl ⟨h, fun l hl => q l _ hl (Keep.new hl) upd_same⟩⟩
end

/-! ### xs[i] op= e -/
section
variable {X : Cx}
open PyProof.Rows in
theorem get_list : PGet X (rIxL X.K) := by
  intro pins s σ H o i ov iv Q I ro ri h
  obtain ⟨p, xs, i, z, rfl, rfl, hq, he, q⟩ := h
  cases ro
  obtain ⟨t, rfl⟩ := ri
  obtain ⟨its, r, pl, hz⟩ := I.list hq
  obtain ⟨j, h1, h2, h3, h4, h5⟩ := atI_get he
  obtain ⟨w, ew, rw'⟩ := r.get h2
  have hl := r.length
  have hn := line63
  have fin : EP X pins σ Q w s := ⟨z, H, I, rw', q⟩
  by_cases h0 : 0 ≤ i
  · have hj : i.toNat = j := by
      rw [seqIndex_of h0 h5] at h1
      exact Option.some.inj h1
    exact wpAny_getItem_list pl.isList h0 (by omega) (by rw [hj]; simpa using ew) fin
  · have hj : (i + (its.toArray.size : Int)).toNat = j := by
      rw [seqIndex_neg (by omega) h4] at h1
      rw [List.size_toArray, ← hl]
      exact Option.some.inj h1
    exact wpAny_getItem_list_neg pl.isList (by omega) (by rw [List.size_toArray] <;> omega) (by omega) (by rw [hj]; simpa using ew) fin
end

/-! ### loops -/
section
variable {K : PySem.W.Frag} {g : TG} {tb : TS} {nx : L2.St → Hp → Prop} {rt : VK} {bk ct : L2.St → Hp → Prop} {D : Ends} {σ : L2.St} {H : Hp} {tl : TE} {ta : TA} {a b : Addr} {xs ys : List V}
def kForL (K : PySem.W.Frag) (g : TG) (tb : TS) (D : Ends) (σ : L2.St) (x : V) (H : Hp) : Prop := tFor (iList K (tC x)) g tb D σ H
def kForT (K : PySem.W.Frag) (g : TG) (tb : TS) (D : Ends) (σ : L2.St) (x : V) (H : Hp) : Prop := tFor (iTup K (tC x)) g tb D σ H
def kForS (g : TG) (tb : TS) (D : Ends) (σ : L2.St) (x : V) (H : Hp) : Prop := tFor (iStr (tC x)) g tb D σ H
def kForR1 (g : TG) (tb : TS) (D : Ends) (σ : L2.St) (vs : List V) (H : Hp) : Prop := tFor (iRng1 fun _ H R => R vs H) g tb D σ H
def kForR2 (g : TG) (tb : TS) (D : Ends) (σ : L2.St) (vs : List V) (H : Hp) : Prop := tFor (iRng2 fun _ H R => R vs H) g tb D σ H
def kForR3 (g : TG) (tb : TS) (D : Ends) (σ : L2.St) (vs : List V) (H : Hp) : Prop := tFor (iRng3 fun _ H R => R vs H) g tb D σ H
def kForZ (K : PySem.W.Frag) (g : TG) (tb : TS) (D : Ends) (σ : L2.St) (vs : List V) (H : Hp) : Prop := tFor (iZip K fun _ H R => R vs H) g tb D σ H
def kForE (K : PySem.W.Frag) (g : TG) (tb : TS) (D : Ends) (σ : L2.St) (vs : List V) (H : Hp) : Prop := tFor (iEnum K fun _ H R => R vs H) g tb D σ H
theorem s_forL (h : tl σ H fun x H1 => kForL K g tb D σ x H1) : tFor (iList K tl) g tb D σ H := h
theorem s_forT (h : tl σ H fun x H1 => kForT K g tb D σ x H1) : tFor (iTup K tl) g tb D σ H := h
theorem s_forS (h : tl σ H fun x H1 => kForS g tb D σ x H1) : tFor (iStr tl) g tb D σ H := h
theorem s_forR1 (h : ta σ H fun vs H1 => kForR1 g tb D σ vs H1) : tFor (iRng1 ta) g tb D σ H := h
theorem s_forR2 (h : ta σ H fun vs H1 => kForR2 g tb D σ vs H1) : tFor (iRng2 ta) g tb D σ H := h
theorem s_forR3 (h : ta σ H fun vs H1 => kForR3 g tb D σ vs H1) : tFor (iRng3 ta) g tb D σ H := h
theorem s_forZ (h : ta σ H fun vs H1 => kForZ K g tb D σ vs H1) : tFor (iZip K ta) g tb D σ H := h
theorem s_forE (h : ta σ H fun vs H1 => kForE K g tb D σ vs H1) : tFor (iEnum K ta) g tb D σ H := h
theorem forL (h : SqL K H a xs) (Pv : Nat → L2.St → Hp → Prop) (h0 : Pv 0 σ H) (hl : ∀ i σ H, i ≤ xs.length → Pv i σ H → SqL K H a xs)
    (hs : ∀ i x σ H, xs[i]? = some x → Pv i σ H → g x σ H fun σ2 H2 => tb ⟨Pv (i + 1), rt, nx, Pv (i + 1)⟩ σ2 H2) (hd : ∀ σ H, Pv xs.length σ H → nx σ H) : kForL K g tb ⟨nx, rt, bk, ct⟩ σ (.ref a) H :=
  ⟨a, rfl, ⟨xs, h⟩, for_list Pv h0 hl hs hd⟩
theorem forT (h : SqT K H a xs) (Pv : Nat → L2.St → Hp → Prop) (h0 : Pv 0 σ H) (hl : ∀ i σ H, i ≤ xs.length → Pv i σ H → SqT K H a xs)
    (hs : ∀ i x σ H, xs[i]? = some x → Pv i σ H → g x σ H fun σ2 H2 => tb ⟨Pv (i + 1), rt, nx, Pv (i + 1)⟩ σ2 H2) (hd : ∀ σ H, Pv xs.length σ H → nx σ H) : kForT K g tb ⟨nx, rt, bk, ct⟩ σ (.ref a) H :=
  ⟨a, rfl, ⟨xs, h⟩, for_tup Pv h0 hl hs hd⟩
theorem forR1 {n : Int} (h1 : -(2 ^ 62) ≤ n) (h2 : n < 2 ^ 62) (Pv : Nat → L2.St → Hp → Prop) (h0 : Pv 0 σ H)
    (hs : ∀ (i : Nat) σ H, (i : Int) < n → Pv i σ H → g (.int (i : Int)) σ H fun σ2 H2 => tb ⟨Pv (i + 1), rt, nx, Pv (i + 1)⟩ σ2 H2) (hd : ∀ σ H, Pv n.toNat σ H → nx σ H) : kForR1 g tb ⟨nx, rt, bk, ct⟩ σ [.int n] H :=
  ⟨n, rfl, h1, h2, for_range (lo := 0) (n := n.toNat) Pv h0 (fun i σ' H' hi p => by
    have e0 : (0 : Int) + (i : Int) = (i : Int) := Int.zero_add _
    rw [e0]
    exact hs i σ' H' (by omega) p) hd⟩
theorem forR2 {lo n : Int} (hb : -(2 ^ 62) ≤ lo ∧ lo < 2 ^ 62 ∧ -(2 ^ 62) ≤ n ∧ n < 2 ^ 62) (Pv : Nat → L2.St → Hp → Prop) (h0 : Pv 0 σ H)
    (hs : ∀ (i : Nat) σ H, lo + (i : Int) < n → Pv i σ H → g (.int (lo + (i : Int))) σ H fun σ2 H2 => tb ⟨Pv (i + 1), rt, nx, Pv (i + 1)⟩ σ2 H2) (hd : ∀ σ H, Pv (n - lo).toNat σ H → nx σ H) : kForR2 g tb ⟨nx, rt, bk, ct⟩ σ [.int lo, .int n] H :=
  ⟨lo, n, rfl, hb, for_range (lo := lo) (n := (n - lo).toNat) Pv h0 (fun i σ' H' hi p => hs i σ' H' (by omega) p) hd⟩
/-! while -/
def rTurn (W : Nat → L2.St → Hp → Prop) (m : Nat) (tb : TS) (D : Ends) (σ : L2.St) (H : Hp) : Prop := ∃ N : L2.St → Hp → Prop, (∀ σ' H', N σ' H' → ∃ m', m' < m ∧ W m' σ' H') ∧ tb { D with nx := N, ct := N, bk := D.nx } σ H
theorem turn {W : Nat → L2.St → Hp → Prop} {m : Nat} (h : tb ⟨fun σ' H' => ∃ m', m' < m ∧ W m' σ' H', rt, nx, fun σ' H' => ∃ m', m' < m ∧ W m' σ' H'⟩ σ H) : rTurn W m tb ⟨nx, rt, bk, ct⟩ σ H := ⟨_, fun _ _ x => x, h⟩
theorem while_ {c : TT} (W : Nat → L2.St → Hp → Prop) (m0 : Nat) (h0 : W m0 σ H) (hs : ∀ m σ H, W m σ H → c σ H fun b H1 => if b = true then rTurn W m tb ⟨nx, rt, bk, ct⟩ σ H1 else nx σ H1) : tWhile c tb ⟨nx, rt, bk, ct⟩ σ H :=
  ⟨W, ⟨m0, h0⟩, hs⟩
/-! comprehensions -/
variable {tt : TT} {te : TE} {vs : List Nat} {Q : VK}
def kLcL (K : PySem.W.Frag) (g : TG) (tt : TT) (te : TE) (vs : List Nat) (σ : L2.St) (x : V) (H : Hp) (Q : VK) : Prop := tLc (iList K (tC x)) g tt te vs σ H Q
def kLcR1 (g : TG) (tt : TT) (te : TE) (vs : List Nat) (σ : L2.St) (zs : List V) (H : Hp) (Q : VK) : Prop := tLc (iRng1 fun _ H R => R zs H) g tt te vs σ H Q
def kLcR2 (g : TG) (tt : TT) (te : TE) (vs : List Nat) (σ : L2.St) (zs : List V) (H : Hp) (Q : VK) : Prop := tLc (iRng2 fun _ H R => R zs H) g tt te vs σ H Q
def kLcZ (K : PySem.W.Frag) (g : TG) (tt : TT) (te : TE) (vs : List Nat) (σ : L2.St) (zs : List V) (H : Hp) (Q : VK) : Prop := tLc (iZip K fun _ H R => R zs H) g tt te vs σ H Q
def kLcS (g : TG) (tt : TT) (te : TE) (vs : List Nat) (σ : L2.St) (x : V) (H : Hp) (Q : VK) : Prop := tLc (iStr (tC x)) g tt te vs σ H Q
theorem e_lcL (h : tl σ H fun x H1 => kLcL K g tt te vs σ x H1 Q) : tLc (iList K tl) g tt te vs σ H Q := h
theorem e_lcR1 (h : ta σ H fun zs H1 => kLcR1 g tt te vs σ zs H1 Q) : tLc (iRng1 ta) g tt te vs σ H Q := h
theorem e_lcR2 (h : ta σ H fun zs H1 => kLcR2 g tt te vs σ zs H1 Q) : tLc (iRng2 ta) g tt te vs σ H Q := h
theorem e_lcZ (h : ta σ H fun zs H1 => kLcZ K g tt te vs σ zs H1 Q) : tLc (iZip K ta) g tt te vs σ H Q := h
theorem e_lcS (h : tl σ H fun x H1 => kLcS g tt te vs σ x H1 Q) : tLc (iStr tl) g tt te vs σ H Q := h
def rApp (D : Addr) (y : V) (H : Hp) (R : Hp → Prop) : Prop := ∃ acc, H D = some (.lst acc) ∧ acc.length < sizeLine ∧ R (upd H D (.lst (acc ++ [y])))
theorem lcL (h : SqL K H a xs) (Pv : Addr → Nat → Hp → Prop) (h0 : ∀ D H1, H D = none → Keep [] H H1 → H1 D = some (.lst []) → Pv D 0 H1) (hl : ∀ D i H, i ≤ xs.length → Pv D i H → SqL K H a xs)
    (hs : ∀ D i x H', H D = none → xs[i]? = some x → Pv D i H' → g x (wipe σ vs) H' fun σ2 H2 => wipe σ2 vs = wipe σ vs ∧ tt σ2 H2 fun b H3 => if b = true then te σ2 H3 fun y H4 => rApp D y H4 (Pv D (i + 1)) else Pv D (i + 1) H3)
    (hd : ∀ D H', H D = none → Pv D xs.length H' → Q (.ref D) H') : kLcL K g tt te vs σ (.ref a) H Q :=
  ⟨a, rfl, ⟨xs, h⟩, fun D hD => lc_list (Pv D) (h0 D _ hD (Keep.new hD) upd_same) (hl D) (fun i x H' hi p => hs D i x H' hD hi p) (fun H' p => hd D H' hD p)⟩
theorem lcR1 {n : Int} (h1 : -(2 ^ 62) ≤ n) (h2 : n < 2 ^ 62) (Pv : Addr → Nat → Hp → Prop) (h0 : ∀ D H1, H D = none → Keep [] H H1 → H1 D = some (.lst []) → Pv D 0 H1)
    (hs : ∀ D (i : Nat) H', H D = none → (i : Int) < n → Pv D i H' → g (.int (i : Int)) (wipe σ vs) H' fun σ2 H2 => wipe σ2 vs = wipe σ vs ∧ tt σ2 H2 fun b H3 => if b = true then te σ2 H3 fun y H4 => rApp D y H4 (Pv D (i + 1)) else Pv D (i + 1) H3)
    (hd : ∀ D H', H D = none → Pv D n.toNat H' → Q (.ref D) H') : kLcR1 g tt te vs σ [.int n] H Q :=
  ⟨n, rfl, h1, h2, fun D hD => lc_range (lo := 0) (n := n.toNat) (Pv D) (h0 D _ hD (Keep.new hD) upd_same) (fun i H' hi p => by
    have e0 : (0 : Int) + (i : Int) = (i : Int) := Int.zero_add _
    rw [e0]
    exact hs D i H' hD (by omega) p) (fun H' p => hd D H' hD p)⟩
theorem lcR2 {lo n : Int} (hb : -(2 ^ 62) ≤ lo ∧ lo < 2 ^ 62 ∧ -(2 ^ 62) ≤ n ∧ n < 2 ^ 62) (Pv : Addr → Nat → Hp → Prop) (h0 : ∀ D H1, H D = none → Keep [] H H1 → H1 D = some (.lst []) → Pv D 0 H1)
    (hs : ∀ D (i : Nat) H', H D = none → lo + (i : Int) < n → Pv D i H' → g (.int (lo + (i : Int))) (wipe σ vs) H' fun σ2 H2 => wipe σ2 vs = wipe σ vs ∧ tt σ2 H2 fun b H3 => if b = true then te σ2 H3 fun y H4 => rApp D y H4 (Pv D (i + 1)) else Pv D (i + 1) H3)
    (hd : ∀ D H', H D = none → Pv D (n - lo).toNat H' → Q (.ref D) H') : kLcR2 g tt te vs σ [.int lo, .int n] H Q :=
  ⟨lo, n, rfl, hb, fun D hD => lc_range (lo := lo) (n := (n - lo).toNat) (Pv D) (h0 D _ hD (Keep.new hD) upd_same) (fun i H' hi p => hs D i H' hD (by omega) p) (fun H' p => hd D H' hD p)⟩
theorem t_yes {P : Bool → Hp → Prop} (h : P true H) : tYes σ H P := h
theorem w_rApp {p : Addr} {y : V} {acc : List V} {R : Hp → Prop} (h : H p = some (.lst acc)) (z : acc.length < sizeLine) (q : ∀ H1, Keep [p] H H1 → H1 p = some (.lst (acc ++ [y])) → R H1) : rApp p y H R := ⟨acc, h, z, q _ (put_lst h) upd_same⟩
theorem w_tup {n : Nat} {t : TGs} {P : L2.St → Hp → Prop} (h : SqT K H a xs) (e : xs.length = n) (q : t xs σ H P) : gTup K n t (.ref a) σ H P := ⟨a, xs, rfl, h, e, q⟩
theorem w_gcons {t : TG} {u : TGs} {v : V} {r : List V} {P : L2.St → Hp → Prop} (q : t v σ H fun σ' H' => u r σ' H' P) : gCons t u (v :: r) σ H P := ⟨v, r, rfl, q⟩
theorem w_gnil {P : L2.St → Hp → Prop} (q : P σ H) : gNil [] σ H P := ⟨rfl, q⟩
def rPar (i j : Nat) (vs : List V) (σ : L2.St) (H : Hp) (P : L2.St → Hp → Prop) : Prop := ∃ v w, vs = [v, w] ∧ P ((σ.set i (some v)).set j (some w)) H
theorem s_par {i j : Nat} (h : ta σ H fun vs H1 => rPar i j vs σ H1 nx) : tPar i j ta ⟨nx, rt, bk, ct⟩ σ H := h
theorem w_par {i j : Nat} {v w : V} {P : L2.St → Hp → Prop} (h : P ((σ.set i (some v)).set j (some w)) H) : rPar i j [v, w] σ H P := ⟨v, w, rfl, h⟩
end

/-! ### pairs of a heap and data -/
/-- each value is a tuple that stands at H -/
def Tups {α : Type} (f : α → List V) (H : Hp) (vs : List V) (xs : List α) : Prop := Paired (fun v x => ∃ t, v = V.ref t ∧ H t = some (.tup (f x))) vs xs
section
variable {α β : Type} {f : α → List V} {H H' : Hp} {vs ws : List V} {xs ys : List α}
theorem Tups.mono (h : Tups f H vs xs) (k : ∀ b zs, H b = some (.tup zs) → H' b = some (.tup zs)) : Tups f H' vs xs := Paired.mapP h fun _ _ ⟨t, e, q⟩ => ⟨t, e, k _ _ q⟩
theorem Tups.keep {S : List Addr} (h : Tups f H vs xs) (k : Keep S H H') : Tups f H' vs xs := h.mono k.2
theorem Tups.nil : Tups f H [] [] := Paired.nil
theorem Tups.len (h : Tups f H vs xs) : vs.length = xs.length := Paired.length h
theorem Tups.snoc {t : Addr} {x : α} (h : Tups f H vs xs) (q : H t = some (.tup (f x))) : Tups f H (vs ++ [.ref t]) (xs ++ [x]) := Paired.snoc h ⟨t, rfl, q⟩
end
section
variable {α β : Type} {F : α → β → Prop}
theorem pd_append : ∀ {vs ws : List α} {xs ys : List β}, Paired F vs xs → Paired F ws ys → Paired F (vs ++ ws) (xs ++ ys)
  | _, _, _, _, .nil, h => h
  | _, _, _, _, .cons a r, h => .cons a (pd_append r h)
theorem pd_take : ∀ {vs : List α} {xs : List β} (n : Nat), Paired F vs xs → Paired F (vs.take n) (xs.take n)
  | _, _, 0, _ => .nil
  | _, _, _ + 1, .nil => .nil
  | _, _, n + 1, .cons a r => .cons a (pd_take n r)
theorem pd_drop : ∀ {vs : List α} {xs : List β} (n : Nat), Paired F vs xs → Paired F (vs.drop n) (xs.drop n)
  | _, _, 0, h => h
  | _, _, _ + 1, .nil => .nil
  | _, _, n + 1, .cons _ r => pd_drop n r
theorem pd_get : ∀ {vs : List α} {xs : List β} {i : Nat} {v : α}, Paired F vs xs → vs[i]? = some v → ∃ x, xs[i]? = some x ∧ F v x
  | _, _, _, _, .nil, e => by simp at e
  | _, _, 0, _, .cons h _, e => by
    simp at e; subst e
    exact ⟨_, rfl, h⟩
  | _, _, i + 1, v, .cons _ r, e => by
    obtain ⟨x, e1, e2⟩ := pd_get (i := i) (v := v) r (by simpa using e)
    exact ⟨x, by simpa using e1, e2⟩
theorem pd_get' : ∀ {vs : List α} {xs : List β} {i : Nat} {x : β}, Paired F vs xs → xs[i]? = some x → ∃ v, vs[i]? = some v ∧ F v x
  | _, _, _, _, .nil, e => by simp at e
  | _, _, 0, _, .cons h _, e => by
    simp at e; subst e
    exact ⟨_, rfl, h⟩
  | _, _, i + 1, x, .cons _ r, e => by
    obtain ⟨v, e1, e2⟩ := pd_get' (i := i) (x := x) r (by simpa using e)
    exact ⟨v, by simpa using e1, e2⟩
end
section
variable {α β : Type} {f : α → List V} {H H' : Hp} {vs ws : List V} {xs ys : List α}
theorem Tups.append (h : Tups f H vs xs) (k : Tups f H ws ys) : Tups f H (vs ++ ws) (xs ++ ys) := pd_append h k
theorem Tups.take (n : Nat) (h : Tups f H vs xs) : Tups f H (vs.take n) (xs.take n) := pd_take n h
theorem Tups.drop (n : Nat) (h : Tups f H vs xs) : Tups f H (vs.drop n) (xs.drop n) := pd_drop n h
theorem Tups.get {i : Nat} {v : V} (h : Tups f H vs xs) (e : vs[i]? = some v) : ∃ t x, v = .ref t ∧ xs[i]? = some x ∧ H t = some (.tup (f x)) := by
  obtain ⟨x, e1, t, e2, e3⟩ := pd_get h e
  exact ⟨t, x, e2, e1, e3⟩
end

/-! ### ifs -/
theorem ite_dec {p A B : Prop} [Decidable p] (h1 : p → A) (h2 : ¬ p → B) : if decide p = true then A else B := by
  by_cases h : p
  · rw [if_pos (decide_eq_true h)]; exact h1 h
  · rw [if_neg (by rw [decide_eq_false h]; exact Bool.false_ne_true)]; exact h2 h
theorem ite_ndec {p A B : Prop} [Decidable p] (h1 : ¬ p → A) (h2 : p → B) : if (!decide p) = true then A else B := by
  by_cases h : p
  · rw [decide_eq_true h]; exact h2 h
  · rw [decide_eq_false h]; exact h1 h
theorem ite_T {A B : Prop} (h : A) : if true = true then A else B := h
theorem ite_F {A B : Prop} (h : B) : if false = true then A else B := h
theorem ite_nT {A B : Prop} (h : B) : if (!true) = true then A else B := h
theorem ite_nF {A B : Prop} (h : A) : if (!false) = true then A else B := h
theorem ite_self {α : Type} [DecidableEq α] {x : α} {A B : Prop} (h : A) : if decide (x = x) = true then A else B := by rw [decide_eq_true rfl]; exact h
theorem ite_nself {α : Type} [DecidableEq α] {x : α} {A B : Prop} (h : B) : if (!decide (x = x)) = true then A else B := by rw [decide_eq_true rfl]; exact h
theorem ite_tf {A B : Prop} (h : B) : if decide (true = false) = true then A else B := h
theorem ite_ft {A B : Prop} (h : B) : if decide (false = true) = true then A else B := h
theorem ite_ntf {A B : Prop} (h : A) : if (!decide (true = false)) = true then A else B := h
theorem ite_nft {A B : Prop} (h : A) : if (!decide (false = true)) = true then A else B := h
theorem q_self {α : Type} [DecidableEq α] {x : α} {Q : VK} {H : Hp} (h : Q (.bl true) H) : Q (.bl (decide (x = x))) H := by rw [decide_eq_true rfl]; exact h
theorem ite_P {p A B : Prop} [Decidable p] (c : p) (h : A) : if decide p = true then A else B := by rw [if_pos (decide_eq_true c)]; exact h
theorem ite_N {p A B : Prop} [Decidable p] (c : ¬ p) (h : B) : if decide p = true then A else B := by rw [decide_eq_false c]; exact h
end W

end
section
set_option maxHeartbeats 4000000
/-! W2: data as a whole; isinstance -/
namespace W
open PySem PySem.Spec L2
mutual
def Da (H : Hp) : PyData → V → Prop
  | .none, v => v = .non
  | .bool b, v => v = .bl b
  | .int i, v => v = .int i
  | .str s, v => v = .str s
  | .list ds, v => ∃ a xs, v = .ref a ∧ H a = some (.lst xs) ∧ DaL H ds xs
  | .tuple ds, v => ∃ a xs, v = .ref a ∧ H a = some (.tup xs) ∧ DaL H ds xs
  | .dict _, _ => False
def DaL (H : Hp) : List PyData → List V → Prop
  | [], xs => xs = []
  | d :: ds, xs => ∃ v r, xs = v :: r ∧ Da H d v ∧ DaL H ds r
end
mutual
/-- how deep -/
def dep : PyData → Nat
  | .list ds => depL ds + 1
  | .tuple ds => depL ds + 1
  | _ => 0
def depL : List PyData → Nat
  | [] => 0
  | d :: ds => max (dep d) (depL ds)
end
mutual
/-- how wide -/
def wid : PyData → Nat
  | .list ds => max ds.length (widL ds)
  | .tuple ds => max ds.length (widL ds)
  | _ => 0
def widL : List PyData → Nat
  | [] => 0
  | d :: ds => max (wid d) (widL ds)
end
mutual
theorem Da.mono {H H' : Hp} (k : Same H H') : ∀ (d : PyData) (v : V), Da H d v → Da H' d v
  | .none, _, h => by simpa [Da] using h
  | .bool _, _, h => by simpa [Da] using h
  | .int _, _, h => by simpa [Da] using h
  | .str _, _, h => by simpa [Da] using h
  | .list ds, _, h => by
    simp only [Da] at h ⊢
    obtain ⟨a, xs, e, h1, h2⟩ := h
    exact ⟨a, xs, e, k _ _ h1, DaL.mono k ds xs h2⟩
  | .tuple ds, _, h => by
    simp only [Da] at h ⊢
    obtain ⟨a, xs, e, h1, h2⟩ := h
    exact ⟨a, xs, e, k _ _ h1, DaL.mono k ds xs h2⟩
  | .dict _, _, h => by simp [Da] at h
theorem DaL.mono {H H' : Hp} (k : Same H H') : ∀ (ds : List PyData) (xs : List V), DaL H ds xs → DaL H' ds xs
  | [], _, h => by simpa [DaL] using h
  | d :: ds, _, h => by
    simp only [DaL] at h ⊢
    obtain ⟨v, r, e, h1, h2⟩ := h
    exact ⟨v, r, e, Da.mono k d v h1, DaL.mono k ds r h2⟩
end
theorem DaL.len {H : Hp} : ∀ {ds : List PyData} {xs : List V}, DaL H ds xs → xs.length = ds.length
  | [], _, h => by simp only [DaL] at h; subst h; rfl
  | d :: ds, _, h => by
    simp only [DaL] at h
    obtain ⟨v, r, rfl, _, h2⟩ := h
    simp [DaL.len h2]
theorem DaL.get {H : Hp} : ∀ {ds : List PyData} {xs : List V} {i : Nat} {v : V}, DaL H ds xs → xs[i]? = some v → ∃ d, ds[i]? = some d ∧ Da H d v
  | [], _, i, v, h, e => by simp only [DaL] at h; subst h; simp at e
  | d :: ds, _, 0, v, h, e => by
    simp only [DaL] at h
    obtain ⟨u, r, rfl, h1, _⟩ := h
    simp at e; subst e
    exact ⟨d, rfl, h1⟩
  | d :: ds, _, i + 1, v, h, e => by
    simp only [DaL] at h
    obtain ⟨u, r, rfl, _, h2⟩ := h
    obtain ⟨x, e1, e2⟩ := DaL.get (i := i) (v := v) h2 (by simpa using e)
    exact ⟨x, by simpa using e1, e2⟩
theorem DaL.append {H : Hp} : ∀ {ds es : List PyData} {xs ys : List V}, DaL H ds xs → DaL H es ys → DaL H (ds ++ es) (xs ++ ys)
  | [], _, _, _, h, k => by simp only [DaL] at h; subst h; exact k
  | d :: ds, _, _, _, h, k => by
    simp only [DaL] at h
    obtain ⟨u, r, rfl, h1, h2⟩ := h
    show DaL H (d :: (ds ++ _)) (u :: (r ++ _))
    simp only [DaL]
    exact ⟨u, _, rfl, h1, DaL.append h2 k⟩
theorem DaL.snoc {H : Hp} {ds : List PyData} {xs : List V} {d : PyData} {v : V} (h : DaL H ds xs) (k : Da H d v) : DaL H (ds ++ [d]) (xs ++ [v]) :=
  h.append (by simp only [DaL]; exact ⟨v, [], rfl, k, rfl⟩)
theorem DaL.one {H : Hp} {d : PyData} {v : V} (k : Da H d v) : DaL H [d] [v] := by simp only [DaL]; exact ⟨v, [], rfl, k, rfl⟩
theorem DaL.cons {H : Hp} {ds : List PyData} {xs : List V} {d : PyData} {v : V} (k : Da H d v) (h : DaL H ds xs) : DaL H (d :: ds) (v :: xs) := by simp only [DaL]; exact ⟨v, xs, rfl, k, h⟩
theorem DaL.nil {H : Hp} : DaL H [] [] := by simp only [DaL]
theorem DaL.ints {H : Hp} : ∀ ns : List Int, DaL H (ns.map PyData.int) (ns.map V.int)
  | [] => DaL.nil
  | n :: r => DaL.cons (by simp only [Da]) (DaL.ints r)
theorem DaL.bools {H : Hp} : ∀ ns : List Bool, DaL H (ns.map PyData.bool) (ns.map V.bl)
  | [] => DaL.nil
  | n :: r => DaL.cons (by simp only [Da]) (DaL.bools r)
theorem Da.int {H : Hp} {i : Int} : Da H (.int i) (.int i) := by simp only [Da]
theorem Da.bl {H : Hp} {i : Bool} : Da H (.bool i) (.bl i) := by simp only [Da]
theorem Da.str {H : Hp} {i : Str} : Da H (.str i) (.str i) := by simp only [Da]
theorem Da.non {H : Hp} : Da H .none .non := by simp only [Da]
theorem Da.lst {H : Hp} {a : Addr} {xs : List V} {ds : List PyData} (h : H a = some (.lst xs)) (k : DaL H ds xs) : Da H (.list ds) (.ref a) := by simp only [Da]; exact ⟨a, xs, rfl, h, k⟩
theorem Da.tup {H : Hp} {a : Addr} {xs : List V} {ds : List PyData} (h : H a = some (.tup xs)) (k : DaL H ds xs) : Da H (.tuple ds) (.ref a) := by simp only [Da]; exact ⟨a, xs, rfl, h, k⟩
theorem depL_get : ∀ {ds : List PyData} {i : Nat} {d : PyData}, ds[i]? = some d → dep d ≤ depL ds
  | [], _, _, e => by simp at e
  | x :: r, 0, d, e => by simp at e; subst e; simp only [depL]; omega
  | x :: r, i + 1, d, e => by
    have h := depL_get (ds := r) (i := i) (d := d) (by simpa using e)
    simp only [depL]; omega
theorem widL_get : ∀ {ds : List PyData} {i : Nat} {d : PyData}, ds[i]? = some d → wid d ≤ widL ds
  | [], _, _, e => by simp at e
  | x :: r, 0, d, e => by simp at e; subst e; simp only [widL]; omega
  | x :: r, i + 1, d, e => by
    have h := widL_get (ds := r) (i := i) (d := d) (by simpa using e)
    simp only [widL]; omega
theorem widL_ints : ∀ ns : List Int, widL (ns.map PyData.int) = 0
  | [] => rfl
  | n :: r => by show max (wid (.int n)) (widL (r.map PyData.int)) = 0; rw [widL_ints r]; rfl
theorem depL_ints : ∀ ns : List Int, depL (ns.map PyData.int) = 0
  | [] => rfl
  | n :: r => by show max (dep (.int n)) (depL (r.map PyData.int)) = 0; rw [depL_ints r]; rfl
mutual
theorem Da.dp {K : PySem.W.Frag} {H : Hp} : ∀ (d : PyData) (v : V), Da H d v → Dp K H v d
  | .none, _, h => by simp only [Da] at h; subst h; exact .non
  | .bool b, _, h => by simp only [Da] at h; subst h; exact .bl b
  | .int i, _, h => by simp only [Da] at h; subst h; exact .int i
  | .str s, _, h => by simp only [Da] at h; subst h; exact .str s
  | .list ds, _, h => by
    simp only [Da] at h
    obtain ⟨a, xs, rfl, h1, h2⟩ := h
    exact .lst (SqL.of h1) (DaL.dp ds xs h2)
  | .tuple ds, _, h => by
    simp only [Da] at h
    obtain ⟨a, xs, rfl, h1, h2⟩ := h
    exact .tup (SqT.of h1) (DaL.dp ds xs h2)
  | .dict _, _, h => by simp [Da] at h
theorem DaL.dp {K : PySem.W.Frag} {H : Hp} : ∀ (ds : List PyData) (xs : List V), DaL H ds xs → DpAll K H xs ds
  | [], _, h => by simp only [DaL] at h; subst h; exact .nil
  | d :: ds, _, h => by
    simp only [DaL] at h
    obtain ⟨v, r, rfl, h1, h2⟩ := h
    exact .cons (Da.dp d v h1) (DaL.dp ds r h2)
end
/-! isinstance -/
def tyName : PyData → String
  | .none => "NoneType" | .bool _ => "bool" | .int _ => "int" | .str _ => "str" | .list _ => "list" | .tuple _ => "tuple" | .dict _ => "dict"
theorem Da.ty {K : PySem.W.Frag} {H : Hp} {d : PyData} {v : V} (h : Da H d v) : TyX K H v (.type (tyName d)) := by
  cases d with
  | none => simp only [Da] at h; subst h; exact .base .non
  | bool b => simp only [Da] at h; subst h; exact .base (.bl b)
  | int i => simp only [Da] at h; subst h; exact .base (.int i)
  | str s => simp only [Da] at h; subst h; exact .base (.str s)
  | list ds =>
    simp only [Da] at h
    obtain ⟨a, xs, rfl, h1, h2⟩ := h
    exact .base (.lst h1)
  | tuple ds =>
    simp only [Da] at h
    obtain ⟨a, xs, rfl, h1, h2⟩ := h
    exact .base (.tup h1)
  | dict ds => simp [Da] at h
theorem w_isi {K : PySem.W.Frag} {H : Hp} {Q : VK} {x : V} {T n : String} {b : Bool} (ty : TyX K H x (.type T)) (h : kitB T n = some b) (q : Q (.bl b) H) : rIsi K [x, .ty n] H Q := ⟨x, .ty n, .type T, .type n, b, rfl, .ty n, ty, kit_ty h, q⟩
theorem w_isiT2 {K : PySem.W.Frag} {H : Hp} {Q : VK} {x : V} {T n m : String} {tp : Addr} {b c : Bool} (ty : TyX K H x (.type T)) (ht : H tp = some (.tup [.ty n, .ty m])) (h : kitB T n = some b) (h2 : kitB T m = some c) (q : Q (.bl (b || c)) H) : rIsiT K [x, .ref tp] H Q :=
  ⟨x, tp, _, .type T, [.type n, .type m], b || c, rfl, ht, .cons (.ty n) (.cons (.ty m) .nil), ty, kitAny_cons (kit_ty h) (fun hb => by
    subst hb
    exact kitAny_cons (kit_ty h2) (fun hc => by subst hc; exact kitAny_nil) (fun hc => by subst hc; rfl)) (fun hb => by subst hb; rfl), q⟩
section
variable {K : PySem.W.Frag} {H : Hp} {Q : VK} {x : V} {T n m : String} {tp : Addr}
theorem w_isi1 (ty : TyX K H x (.type T)) (h : kitB T n = some true) (q : Q (.bl true) H) : rIsi K [x, .ty n] H Q := w_isi ty h q
theorem w_isi0 (ty : TyX K H x (.type T)) (h : kitB T n = some false) (q : Q (.bl false) H) : rIsi K [x, .ty n] H Q := w_isi ty h q
theorem w_isiT10 (ty : TyX K H x (.type T)) (ht : H tp = some (.tup [.ty n, .ty m])) (h : kitB T n = some true) (h2 : kitB T m = some false) (q : Q (.bl true) H) : rIsiT K [x, .ref tp] H Q := w_isiT2 ty ht h h2 q
theorem w_isiT01 (ty : TyX K H x (.type T)) (ht : H tp = some (.tup [.ty n, .ty m])) (h : kitB T n = some false) (h2 : kitB T m = some true) (q : Q (.bl true) H) : rIsiT K [x, .ref tp] H Q := w_isiT2 ty ht h h2 q
theorem w_isiT00 (ty : TyX K H x (.type T)) (ht : H tp = some (.tup [.ty n, .ty m])) (h : kitB T n = some false) (h2 : kitB T m = some false) (q : Q (.bl false) H) : rIsiT K [x, .ref tp] H Q := w_isiT2 ty ht h h2 q
end
/-! == of data that are the same -/
mutual
theorem canLay_ints : ∀ ns : List Int, PyData.canLayAll0 (ns.map PyData.int) = true
  | [] => rfl
  | n :: r => by show (PyData.canLay0 (.int n) && PyData.canLayAll0 (r.map PyData.int)) = true; rw [canLay_ints r]; rfl
end
theorem depth_ints : ∀ ns : List Int, PyData.depthAll (ns.map PyData.int) = 0
  | [] => rfl
  | n :: r => by show max (PyData.depth (.int n)) (PyData.depthAll (r.map PyData.int)) = 0; rw [depth_ints r]; rfl
theorem shp_ints (ns : List Int) : SeqAt.shaped (.list (ns.map PyData.int)) = true := by
  show (PyData.canLayAll0 (ns.map PyData.int) && decide (PyData.depthAll (ns.map PyData.int) + 1 ≤ 64)) = true
  rw [canLay_ints, depth_ints]; rfl
theorem w_neD {K : PySem.W.Frag} {H : Hp} {Q : VK} {x y : V} (d : PyData) (hx : Da H d x) (hy : Da H d y) (hs : SeqAt.shaped d = true) (q : Q (.bl false) H) : rNeD K x y H Q :=
  ⟨d, d, hx.dp, hy.dp, hs, hs, by rw [SeqAt.eqv_refl d (SeqAt.canLay_of_shaped hs)]; exact q⟩
theorem w_eqD {K : PySem.W.Frag} {H : Hp} {Q : VK} {x y : V} (d : PyData) (hx : Da H d x) (hy : Da H d y) (hs : SeqAt.shaped d = true) (q : Q (.bl true) H) : rEqD K x y H Q :=
  ⟨d, d, hx.dp, hy.dp, hs, hs, by rw [SeqAt.eqv_refl d (SeqAt.canLay_of_shaped hs)]; exact q⟩
/-! insert; a list unpacked -/
def rInsL : V → List V → Hp → VK → Prop := fun x vs H Q => ∃ (l : Addr) (xs : List V) (i : Int) (y : V), x = .ref l ∧ vs = [.int i, y] ∧ H l = some (.lst xs) ∧ xs.length < sizeLine ∧ 0 ≤ i ∧ i < 2 ^ 63 ∧
    Q .non (upd H l (.lst (xs.take i.toNat ++ [y] ++ xs.drop i.toNat)))
theorem mt_insertL {X : Cx} : MtR X "list.insert" rInsL := mt_insert
theorem w_ins {H : Hp} {Q : VK} {l : Addr} {xs : List V} {i : Int} {y : V} (h : H l = some (.lst xs)) (z : xs.length < sizeLine) (h0 : 0 ≤ i ∧ i < 2 ^ 63) (q : ∀ H1, Keep [l] H H1 → H1 l = some (.lst (xs.take i.toNat ++ [y] ++ xs.drop i.toNat)) → Q .non H1) :
    rInsL (.ref l) [.int i, y] H Q := ⟨l, xs, i, y, rfl, rfl, h, z, h0.1, h0.2, q _ (put_lst h) upd_same⟩
theorem w_unl {K : PySem.W.Frag} {σ : L2.St} {H : Hp} {a : Addr} {xs : List V} {n : Nat} {t : TGs} {P : L2.St → Hp → Prop} (h : SqL K H a xs) (e : xs.length = n) (q : t xs σ H P) : gUnl K n t (.ref a) σ H P := ⟨a, xs, rfl, h, e, q⟩
/-! walks that give pairs, texts -/
section
variable {K : PySem.W.Frag} {g : TG} {tb : TS} {tt : TT} {te : TE} {vs : List Nat} {Q : VK} {nx : L2.St → Hp → Prop} {rt : VK} {bk ct : L2.St → Hp → Prop} {σ : L2.St} {H : Hp} {a b : Addr} {xs ys : List V} {z : Str}
theorem lcZ {n : Nat} (hn : n = min xs.length ys.length) (hx : SqL K H a xs) (hy : SqL K H b ys) (Pv : Addr → Nat → Hp → Prop) (h0 : ∀ D H1, H D = none → Keep [] H H1 → H1 D = some (.lst []) → Pv D 0 H1) (hl : ∀ D i H, i ≤ n → Pv D i H → SqL K H a xs ∧ SqL K H b ys)
    (hs : ∀ D i x y T H' H'', H D = none → xs[i]? = some x → ys[i]? = some y → Pv D i H' → H' T = none → Keep [] H' H'' → H'' T = some (.tup [x, y]) → g (.ref T) (wipe σ vs) H'' fun σ2 H2 => wipe σ2 vs = wipe σ vs ∧ tt σ2 H2 fun b H3 => if b = true then te σ2 H3 fun y H4 => rApp D y H4 (Pv D (i + 1)) else Pv D (i + 1) H3)
    (hd : ∀ D H', H D = none → Pv D n H' → Q (.ref D) H') : kLcZ K g tt te vs σ [.ref a, .ref b] H Q :=
  ⟨a, b, xs, ys, rfl, hx, hy, fun D hD => lc_it (walk_zip hn) (Pv D) (h0 D _ hD (Keep.new hD) upd_same) (hl D) (fun i v H' H'' _ p y => by
    obtain ⟨T, x, z, rfl, nT, rfl, e1, e2⟩ := y
    exact hs D i x z T H' _ hD e1 e2 p nT (Keep.new nT) upd_same) (fun H' p => hd D H' hD p)⟩
theorem forZ {n : Nat} (hn : n = min xs.length ys.length) (hx : SqL K H a xs) (hy : SqL K H b ys) (Pv : Nat → L2.St → Hp → Prop) (h0 : Pv 0 σ H) (hl : ∀ i σ H, i ≤ n → Pv i σ H → SqL K H a xs ∧ SqL K H b ys)
    (hs : ∀ i x y T σ H' H'', xs[i]? = some x → ys[i]? = some y → Pv i σ H' → H' T = none → Keep [] H' H'' → H'' T = some (.tup [x, y]) → g (.ref T) σ H'' fun σ2 H2 => tb ⟨Pv (i + 1), rt, nx, Pv (i + 1)⟩ σ2 H2)
    (hd : ∀ σ H', Pv n σ H' → nx σ H') : kForZ K g tb ⟨nx, rt, bk, ct⟩ σ [.ref a, .ref b] H :=
  ⟨a, b, xs, ys, rfl, hx, hy, for_it (walk_zip hn) Pv h0 hl (fun i v σ H' H'' _ p y => by
    obtain ⟨T, x, z, rfl, nT, rfl, e1, e2⟩ := y
    exact hs i x z T σ H' _ e1 e2 p nT (Keep.new nT) upd_same) hd⟩
theorem forE (hx : SqL K H a xs) (Pv : Nat → L2.St → Hp → Prop) (h0 : Pv 0 σ H) (hl : ∀ i σ H, i ≤ xs.length → Pv i σ H → SqL K H a xs)
    (hs : ∀ (i : Nat) x T σ H' H'', xs[i]? = some x → Pv i σ H' → H' T = none → Keep [] H' H'' → H'' T = some (.tup [.int (i : Int), x]) → g (.ref T) σ H'' fun σ2 H2 => tb ⟨Pv (i + 1), rt, nx, Pv (i + 1)⟩ σ2 H2)
    (hd : ∀ σ H', Pv xs.length σ H' → nx σ H') : kForE K g tb ⟨nx, rt, bk, ct⟩ σ [.ref a] H :=
  ⟨a, xs, rfl, hx, for_it walk_enum Pv h0 hl (fun i v σ H' H'' _ p y => by
    obtain ⟨T, x, z, rfl, nT, rfl, e1, e2⟩ := y
    cases e1
    exact hs i z T σ H' _ e2 p nT (Keep.new nT) upd_same) hd⟩
theorem forS (Pv : Nat → L2.St → Hp → Prop) (h0 : Pv 0 σ H)
    (hs : ∀ (i : Nat) c σ H', z.cps[i]? = some c → Pv i σ H' → g (.str ⟨#[c]⟩) σ H' fun σ2 H2 => tb ⟨Pv (i + 1), rt, nx, Pv (i + 1)⟩ σ2 H2)
    (hd : ∀ σ H', Pv z.cps.size σ H' → nx σ H') : kForS g tb ⟨nx, rt, bk, ct⟩ σ (.str z) H :=
  ⟨z, rfl, for_it walk_str Pv h0 (fun _ _ _ _ _ => trivial) (fun i v σ H' H'' _ p y => by
    obtain ⟨rfl, c, e, rfl⟩ := y
    exact hs i c σ _ e p) hd⟩
theorem lcS (Pv : Addr → Nat → Hp → Prop) (h0 : ∀ D H1, H D = none → Keep [] H H1 → H1 D = some (.lst []) → Pv D 0 H1)
    (hs : ∀ D (i : Nat) c H', H D = none → z.cps[i]? = some c → Pv D i H' → g (.str ⟨#[c]⟩) (wipe σ vs) H' fun σ2 H2 => wipe σ2 vs = wipe σ vs ∧ tt σ2 H2 fun b H3 => if b = true then te σ2 H3 fun y H4 => rApp D y H4 (Pv D (i + 1)) else Pv D (i + 1) H3)
    (hd : ∀ D H', H D = none → Pv D z.cps.size H' → Q (.ref D) H') : kLcS g tt te vs σ (.str z) H Q :=
  ⟨z, rfl, fun D hD => lc_it walk_str (Pv D) (h0 D _ hD (Keep.new hD) upd_same) (fun _ _ _ _ => trivial) (fun i v H' H'' _ p y => by
    obtain ⟨rfl, c, e, rfl⟩ := y
    exact hs D i c _ hD e p) (fun H' p => hd D H' hD p)⟩
end
/-! texts as lists of codes -/
def tx (l : List Nat) : Str := ⟨l.toArray⟩
theorem tx_len (l : List Nat) : (tx l).length = l.length := by simp [tx, Str.length]
theorem tx_app (l m : List Nat) : tx l ++ tx m = tx (l ++ m) := by
  show Str.append (tx l) (tx m) = _
  simp [tx, Str.append]
theorem tx_cps (l : List Nat) : (tx l).cps.toList = l := by simp [tx]
theorem tx_inj {l m : List Nat} (h : tx l = tx m) : l = m := by
  have := congrArg (fun s : Str => s.cps.toList) h
  simpa [tx] using this
theorem tx_of (s : Str) : ∃ l, s = tx l := ⟨s.cps.toList, by cases s; simp [tx]⟩
theorem tx_eq {l m : List Nat} : decide (tx l = tx m) = decide (l = m) := by
  by_cases h : l = m
  · subst h; simp
  · rw [decide_eq_false h, decide_eq_false (fun q => h (tx_inj q))]
theorem joinL_nil : ∀ ys : List (List Nat), TL.joinL [] ys = ys.flatten
  | [] => rfl
  | [p] => by simp [TL.joinL]
  | p :: q :: r => by
    show p ++ ([] ++ TL.joinL [] (q :: r)) = _
    rw [joinL_nil (q :: r)]; simp
theorem tx_join (ys : List (List Nat)) : Txt.join (tx []) (ys.map tx) = tx ys.flatten := by
  have h := SX.join_S [] ys
  rw [joinL_nil] at h
  exact h
theorem cut_tx (l : List Nat) (s e : Nat) : cutS (tx l) (some (s : Int)) (some (e : Int)) = tx ((l.drop (min s l.length)).take (min e l.length - min s l.length)) := by
  unfold cutS
  rw [tx_cps, tx_len, HT.sIx_nat, HT.sIx_nat]; rfl
theorem cut_tx0 (l : List Nat) (e : Nat) : cutS (tx l) none (some (e : Int)) = tx (l.take e) := by
  unfold cutS
  rw [tx_cps, tx_len, HT.sIx_nat, HT.sIx_none, List.drop_zero, Nat.sub_zero, ← List.take_take, List.take_length]; rfl
theorem atI_tx {l : List Nat} {i : Nat} {c : Nat} (h : l[i]? = some c) : atI (tx l).cps.toList (i : Int) = some c := by rw [tx_cps]; exact atI_nat h
/-! the same rules, the frozen part named: so that a reading never hangs on a block's context -/
/-- str.join of a list of texts -/
def rJoin (K : PySem.W.Frag) : V → List V → Hp → VK → Prop := fun x xs H Q => ∃ a p, ∃ ys : List Str, x = .str a ∧ xs = [.ref p] ∧ (SqL K H p (ys.map V.str) ∨ SqT K H p (ys.map V.str)) ∧
    (ys.map (·.length)).sum + ys.length * a.length ≤ 16777216 ∧ Q (.str (Txt.join a ys)) H
theorem ix_listK {X : Cx} {K : PySem.W.Frag} (hK : X.K = K := by rfl) : IxR X (rIxL K) := by subst hK; exact ix_list
theorem ix_tupK {X : Cx} {K : PySem.W.Frag} (hK : X.K = K := by rfl) : IxR X (rIxT K) := by subst hK; exact ix_tup
theorem ix_ltK {X : Cx} {K : PySem.W.Frag} (hK : X.K = K := by rfl) : IxR X (rIxLT K) := by subst hK; exact ix_lt
theorem sl_listK {X : Cx} {K : PySem.W.Frag} (hK : X.K = K := by rfl) : SlR X (rSlL K) := by subst hK; exact sl_list
theorem sl_tupK {X : Cx} {K : PySem.W.Frag} (hK : X.K = K := by rfl) : SlR X (rSlT K) := by subst hK; exact sl_tup
theorem call_lenLK {X : Cx} {K : PySem.W.Frag} (hK : X.K = K := by rfl) : CallR X (.builtin "len") (rLen K) := by subst hK; exact call_lenL
theorem call_listLK {X : Cx} {K : PySem.W.Frag} (hK : X.K = K := by rfl) : CallR X (.type "list") (rListL K) := by subst hK; exact call_listL
theorem call_tupleLK {X : Cx} {K : PySem.W.Frag} (hK : X.K = K := by rfl) : CallR X (.type "tuple") (rTupL K) := by subst hK; exact call_tupleL
theorem op_in_seqK {X : Cx} {K : PySem.W.Frag} (hK : X.K = K := by rfl) : OpR X (compareOp .In) (rIn K false) := by subst hK; exact op_in_seq
theorem op_notIn_seqK {X : Cx} {K : PySem.W.Frag} (hK : X.K = K := by rfl) : OpR X (compareOp .NotIn) (rIn K true) := by subst hK; exact op_notIn_seq
theorem op_eqDK {X : Cx} {K : PySem.W.Frag} (hu : X.A.units + 64 < cLine) (hK : X.K = K := by rfl) : OpR X (compareOp .Eq) (rEqD K) := by subst hK; exact op_eqD hu
theorem op_neDK {X : Cx} {K : PySem.W.Frag} (hu : X.A.units + 64 < cLine) (hK : X.K = K := by rfl) : OpR X (compareOp .NotEq) (rNeD K) := by subst hK; exact op_neD hu
theorem op_catTK {X : Cx} {K : PySem.W.Frag} (hK : X.K = K := by rfl) : OpR X (binaryOp .Add) (rCatT K) := by subst hK; exact op_catT
theorem call_isiK {X : Cx} {K : PySem.W.Frag} (hK : X.K = K := by rfl) : CallR X (.builtin "isinstance") (rIsi K) := by subst hK; exact call_isi
theorem call_isiTK {X : Cx} {K : PySem.W.Frag} (hK : X.K = K := by rfl) : CallR X (.builtin "isinstance") (rIsiT K) := by subst hK; exact call_isiT
theorem cr_sumK {X : Cx} {K : PySem.W.Frag} (hc : X.calm = true) (hK : X.K = K := by rfl) : CallR X (.builtin "sum") (rSum K) := by subst hK; exact cr_sum hc
theorem cr_minK {X : Cx} {K : PySem.W.Frag} (hc : X.calm = true) (hK : X.K = K := by rfl) : CallR X (.builtin "min") (rMin K) := by subst hK; exact cr_min hc
theorem cr_maxK {X : Cx} {K : PySem.W.Frag} (hc : X.calm = true) (hK : X.K = K := by rfl) : CallR X (.builtin "max") (rMax K) := by subst hK; exact cr_max hc
theorem cr_allK {X : Cx} {K : PySem.W.Frag} (hc : X.calm = true) (hK : X.K = K := by rfl) : CallR X (.builtin "all") (rAll K) := by subst hK; exact cr_all hc
theorem get_listK {X : Cx} {K : PySem.W.Frag} (hK : X.K = K := by rfl) : PGet X (rIxL K) := by subst hK; exact get_list
theorem pi_listK {X : Cx} {K : PySem.W.Frag} {tg l : Expr} {tl : TE} (hl : PE X l tl) (hK : X.K = K := by rfl) : PI X tg l (iList K tl) := by subst hK; exact pi_list hl
theorem pi_tupK {X : Cx} {K : PySem.W.Frag} {tg l : Expr} {tl : TE} (hl : PE X l tl) (hK : X.K = K := by rfl) : PI X tg l (iTup K tl) := by subst hK; exact pi_tup hl
theorem pg_tupK {X : Cx} {K : PySem.W.Frag} {es : List Expr} {pos : Pos} {k : Nat} {t : TGs} {n : Nat} (hc : X.calm = true) (h : PGs X es t) (hn : (assignEach es X.env).length = n := by rfl) (hst : (assignEach es X.env).findIdx? (·.1) = none := by rfl) (hK : X.K = K := by rfl) : PG X (.Tuple es k pos) (gTup K n t) := by subst hK; exact pg_tup hc h hn hst
theorem pg_unlK {X : Cx} {K : PySem.W.Frag} {es : List Expr} {pos : Pos} {k : Nat} {t : TGs} {n : Nat} (hc : X.calm = true) (h : PGs X es t) (hn : (assignEach es X.env).length = n := by rfl) (hst : (assignEach es X.env).findIdx? (·.1) = none := by rfl) (hK : X.K = K := by rfl) : PG X (.Tuple es k pos) (gUnl K n t) := by subst hK; exact pg_unl hc h hn hst
theorem pi_zipK {X : Cx} {K : PySem.W.Frag} {e e2 : Expr} {ta : TA} {p pos tpos : Pos} {elts : List Expr} {kk : Nat} (hg : Gl X "zip") (hm : X.mg "zip" = none) (ha : PA X [e, e2] ta) (hs : starEach [e, e2] X.env = (false, eval e X.env) :: starEach [e2] X.env := by rfl) (hpl : (backTo pos (starEach [e2] X.env)).any (·.1) = false := by rfl) (hK : X.K = K := by rfl) : PI X (.Tuple elts kk tpos) (.Call (.Name "zip" p) [e, e2] [] pos) (iZip K ta) := by subst hK; exact pi_zip hg hm ha hs hpl
theorem pi_enumK {X : Cx} {K : PySem.W.Frag} {e : Expr} {ta : TA} {p pos tpos : Pos} {elts : List Expr} {kk : Nat} (hg : Gl X "enumerate") (hm : X.mg "enumerate" = none) (ha : PA X [e] ta) (hs : starEach [e] X.env = [(false, eval e X.env)] := by rfl) (hK : X.K = K := by rfl) : PI X (.Tuple elts kk tpos) (.Call (.Name "enumerate" p) [e] [] pos) (iEnum K ta) := by subst hK; exact pi_enum hg hm ha hs
theorem pe_fldK {X : Cx} {K : PySem.W.Frag} {e : Expr} {f : Str} {pos : Pos} {ta : TE} (he : PE X e ta) (hb : attributeBase e f X.env (eval e X.env) = eval e X.env) (hK : X.K = K := by rfl) : PE X (.Attribute e f pos) (tFld K ta f) := by subst hK; exact pe_fld he hb
theorem ps_fldK {X : Cx} {K : PySem.W.Frag} {o value : Expr} {f : Str} {pos pos' : Pos} {ta tv : TE} (ha : PE X o ta) (hv : PE X value tv) (hs : swapsWith value (some (.Attribute o f pos')) pos.line X.env = pure false) (hK : X.K = K := by rfl) : PS X (.Assign [.Attribute o f pos'] value pos) (sFld K ta tv f) := by subst hK; exact ps_fld ha hv hs
theorem ps_fldaugK {X : Cx} {K : PySem.W.Frag} {o value : Expr} {f : Str} {pos tpos : Pos} {ta tv : TE} {op : Operator} {rd : V → V → Hp → VK → Prop} (ha : PE X o ta) (hv : PE X value tv) (hop : InOp X op rd) (hK : X.K = K := by rfl) : PS X (.AugAssign (.Attribute o f tpos) op value pos) (sFldAug K ta tv rd f) := by subst hK; exact ps_fldaug ha hv hop
theorem pe_bm0K {X : Cx} {K : PySem.W.Frag} {o e : Expr} {es : List Expr} {to : TE} {t : TA} {name : Str} {apos cpos : Pos} {T id : String} {r : V → List V → Hp → VK → Prop} (pa : PlainAttrs T) (slot : Slot T name id) (hty : typeOf (.builtin id) = pure (.type "method_descriptor")) (hm : MtR X id r) (ho : PE X o to) (hbase : attributeBase o name X.env (eval o X.env) = eval o X.env := by rfl) (hline : (apos.endLine == cpos.line) = true := by rfl) (hK : X.K = K := by rfl) : PE X (.Call (.Attribute o name apos) [] [] cpos) (tBM0 K T r to) := by subst hK; exact pe_bm0 pa slot hty hm ho hbase hline
theorem pe_bmK {X : Cx} {K : PySem.W.Frag} {o e : Expr} {es : List Expr} {to : TE} {t : TA} {name : Str} {apos cpos : Pos} {T id : String} {r : V → List V → Hp → VK → Prop} (pa : PlainAttrs T) (slot : Slot T name id) (hty : typeOf (.builtin id) = pure (.type "method_descriptor")) (hm : MtR X id r) (ho : PE X o to) (ha : PA X (e :: es) t) (hbase : attributeBase o name X.env (eval o X.env) = eval o X.env := by rfl)
    (hfew : ((backTo cpos (starEach (e :: es) X.env)).all (fun x => !x.1) && (backToKw cpos (keywordEach [] X.env)).all (fun x => x.1.isSome)
      && decide ((e :: es).length + ([] : List Keyword).length + (if ([] : List Keyword).isEmpty then 0 else 1) < 30)) = true := by rfl)
    (hline : (apos.endLine == cpos.line) = true := by rfl) (hs : starEach (e :: es) X.env = (false, eval e X.env) :: starEach es X.env := by rfl) (hplain : (backTo cpos (starEach es X.env)).any (·.1) = false := by rfl) (hK : X.K = K := by rfl) : PE X (.Call (.Attribute o name apos) (e :: es) [] cpos) (tBM K T r to t) := by subst hK; exact pe_bm pa slot hty hm ho ha hbase hfew hline hs hplain
theorem pe_joinK {X : Cx} {K : PySem.W.Frag} {o e : Expr} {to te : TE} {apos pos : Pos} (ho : PE X o to) (he : PE X e te) (hs : starEach [e] X.env = [(false, eval e X.env)] := by rfl) (hbase : attributeBase o "join" X.env (eval o X.env) = eval o X.env := by rfl) (hline : (apos.endLine == pos.line) = true := by rfl) (hK : X.K = K := by rfl) : PE X (.Call (.Attribute o "join" apos) [e] [] pos) (tM1 (rJoin K) to te) := by subst hK; exact pe_join ho he hs hbase hline
def rStrR (x : V) (R : Prop) : Prop := (∃ a, x = .str a) ∧ R
theorem e_m1 {r : V → List V → Hp → VK → Prop} {to te : TE} {σ : L2.St} {H : Hp} {Q : VK} (h : to σ H fun x H1 => rStrR x (te σ H1 fun y H2 => r x [y] H2 Q)) : tM1 r to te σ H Q := h
theorem w_strR {a : Str} {R : Prop} (h : R) : rStrR (.str a) R := ⟨⟨a, rfl⟩, h⟩
end W

end
section
set_option maxHeartbeats 4000000
/-! W3: exceptions of the program's own classes -/
namespace W
open PySem PySem.Spec L2
theorem exm_self {K : PySem.W.Frag} {S : Addr} (h1 : PySem.W.subIn K (.ref S) (.type "BaseException") = some true) (h2 : PySem.W.isClsIn K S = true) (h3 : PySem.W.typeIn K (.ref S) = some (.type "type")) (h4 : PySem.W.subIn K (.ref S) (.ref S) = some true) :
    PySem.W.exmOne K (.ref S) (.ref S) = some true := by
  have e1 : (PySem.W.subIn K (.ref S) (.type "BaseException") == some true) = true := by rw [h1] <;> rfl
  have e2 : ((PySem.W.clsIn K S).isSome && PySem.W.typeIn K (.ref S) == some (.type "type")) = true := by
    have h2' : (PySem.W.clsIn K S).isSome = true := h2
    rw [h2', h3] <;> rfl
  show (if (PySem.W.subIn K (.ref S) (.type "BaseException") == some true) = true then (if ((PySem.W.clsIn K S).isSome && PySem.W.typeIn K (.ref S) == some (.type "type")) = true then PySem.W.subIn K (.ref S) (.ref S) else none) else none) = some true
  rw [if_pos e1, if_pos e2]
  exact h4
section
variable {X : Cx} {C c : Addr} {bmB : List Value} {B newId initId : String} {Wx Wout : WX} {K : PySem.W.Frag}
/-- raise C('..') -/
def tRaise (C : Addr) (Wx : WX) : TS := fun _ σ H => Wx (.ref C) none σ H
theorem ps_raise1 {x m : Str} {j : Nat} {p p2 pos pos2 : Pos} (hc : X.calm = true) (tk : Takes X Wx) (F : ExcBaseFacts B newId initId bmB) (q : PySem.W.excIn X.K C bmB newId = true) (gC : X.mg x = some (.ref C)) (kC : PySem.W.keepIn X.K (.ref C) = true)
    (r : Raises X (.ref C)) (hg : Gl X x) (hdb : (x == ("__debug__" : Str)) = false := by decide) : PS X (.Raise (some (.Call (.Name x p) [.Constant (.str m) j p2] [] pos)) none pos2) (tRaise C Wx) :=
  ps_raise hc tk (pmk_own F q gC kC r hg hdb)
/-- try: .. except c: .. -/
def tTry (K : PySem.W.Frag) (c : Value) (tb : WX → TS) (ts : Addr → Value → Option Addr → TS) (Wout : WX) : TS := fun D σ H => tb (wOnly K c ts Wout D) D σ H
theorem ps_try1 {x : Str} {c : Value} {body suite : List Stmt} {b₀ : Stmt} {np pos pos' : Pos} {tb : WX → TS} {ts : Addr → Value → Option Addr → TS} (hs : X.stack = X.env :: X.outer) (hf : X.env.frame = some X.env.locals) (hc : Names X x c) (tk : Takes X Wout)
    (hb : ∀ (W : WX) (pn : List (Addr × Obj)) (xe : Value → Shared → Prop), Takes (X.tr pn xe) W → PassesOwn (model X.prog X.w) X.A X.env xe → PSs (X.tr pn xe) body (tb W))
    (hsu : ∀ (a : Addr) (oe : Obj) (cls : Value) (d : Option Addr) (pn : List (Addr × Obj)), Zc cls d oe → (∃ vs, oe.data = .fields vs) → PSs (X.suite a ((a, oe) :: pn)) (b₀ :: suite) (ts a cls d)) (hK : X.K = K := by rfl) :
    PS X (.Try body [.ExceptHandler (some (.Name x np)) none (b₀ :: suite) pos'] [] [] pos) (tTry K c tb ts Wout) := by
  subst hK; exact ps_try_only hs hf hc tk hb hsu
/-- o.m(..), its way out read at the slots -/
def tMethS (C : Addr) (m : Str) (sp : Sp) (E : St → XK) (ta : TE) (t : TA) : TE := fun σ H Q => ta σ H fun x H1 => ∃ a dx fs, x = .ref a ∧ H1 a = some (.ins C dx fs) ∧ fs.lookup m = none ∧
  t σ H1 fun vs H2 => sp (x :: vs) H2 Q (E σ)
theorem pe_meth0S {CX : CXT} {k : Nat} {f : Addr} {fd : FuncData} {ps : List Str} {sp : Sp} {E : St → XK} {m : Str} {pos apos : Pos} {o : Expr} {ta : TE} {pl : Sem Bool} (he : PE X o ta) (c : Cls X.K C) (hm : Meth X.K C m f) (F : FnOk X.prog X.w X.K X.mg X.base CX k f fd ps sp) (hr : Room k X.A) (hb : Binds X.K fd ps [])
    (hx : ∀ σ, PassesAt CX X σ (E σ))
    (ht : eval (.Call (.Attribute o m apos) [] [] pos) X.env = (do
      let ov ← eval o X.env
      standAt apos.atName
      let (f, first) ← holding [ov] (getMethod ov m pl)
      callWith pos f first (backTo pos (starEach [] X.env)) (backToKw pos (keywordEach [] X.env))) := by rfl) :
    PE X (.Call (.Attribute o m apos) [] [] pos) (tMethS C m sp E ta tNil) := by
  refine ⟨fun pins s σ H Q I h => ?_⟩
  refine PySem.W.methodCall_KW (pl := pl) (thn (he.run pins s σ H _ I h) fun u s1 ⟨x, H1, I1, rx, a, dx, fs, ex, ea, l, q⟩ => ?_) ht
  subst ex
  obtain rfl : u = Value.ref a := rx
  refine getmeth_ok I1 ea c hm l ?_
  exact PySem.W.callWith_K0 (first := [.ref a]) I1.kIn hm.kp (run_fnS (us := [.ref a]) (vs := [.ref a]) F hr hb (hx σ) I1 (.cons rfl .nil) q)
end
section
variable {σ : L2.St} {H : Hp} {Q : VK} {te ta : TE} {tr : TA} {K : PySem.W.Frag} {nx : L2.St → Hp → Prop} {rt : VK} {bk ct : L2.St → Hp → Prop}
theorem s_raise {C : Addr} {Wx : WX} {D : Ends} (h : Wx (.ref C) none σ H) : tRaise C Wx D σ H := h
theorem s_try {c : Value} {tb : WX → TS} {ts : Addr → Value → Option Addr → TS} {Wout : WX} {D : Ends} (h : tb (wOnly K c ts Wout D) D σ H) : tTry K c tb ts Wout D σ H := h
theorem e_methS {C : Addr} {m : Str} {sp : Sp} {E : L2.St → XK} (h : ta σ H fun x H1 => rMeth C m x H1 (tr σ H1 fun vs H2 => sp (x :: vs) H2 Q (E σ))) : tMethS C m sp E ta tr σ H Q := h
theorem w_only {c : Value} {ts : Addr → Value → Option Addr → TS} {Wout : WX} {D : Ends} {cls : Value} {d : Option Addr} (h : PySem.W.exmOne K cls c = some true) (q : ∀ a, H a = none → ts a cls d D σ H) : wOnly K c ts Wout D cls d σ H := ⟨true, h, fun _ => q, fun z => Bool.noConfusion z⟩
end
/-! o.f op= e -/
section
variable {σ : L2.St} {H : Hp} {ta tb : TE} {K : PySem.W.Frag} {nx : L2.St → Hp → Prop} {rt : VK} {bk ct : L2.St → Hp → Prop} {f : Str} {rd : V → V → Hp → VK → Prop}
def rPF (a C : Addr) (f : Str) (z : V) (H : Hp) (R : Hp → Prop) : Prop := ∃ dx fs, H a = some (.ins C dx fs) ∧ fs.length < 1000 ∧ R (upd H a (.ins C dx (putF f z fs)))
def rFA (K : PySem.W.Frag) (f : Str) (tb : TE) (rd : V → V → Hp → VK → Prop) (σ : L2.St) (x : V) (H : Hp) (R : Hp → Prop) : Prop := ∃ a C dx fs v, x = .ref a ∧ H a = some (.ins C dx fs) ∧ Cls K C ∧ NoAttr K C f ∧ fs.lookup f = some v ∧
  tb σ H fun y H2 => rd v y H2 fun z H3 => rPF a C f z H3 R
theorem s_fa (h : ta σ H fun x H1 => rFA K f tb rd σ x H1 fun H3 => nx σ H3) : sFldAug K ta tb rd f ⟨nx, rt, bk, ct⟩ σ H := h
theorem w_fa {a C dx : Addr} {fs : List (Str × V)} {v : V} {R : Hp → Prop} (h : H a = some (.ins C dx fs)) (c : Cls K C) (n : NoAttr K C f) (l : fs.lookup f = some v) (q : tb σ H fun y H2 => rd v y H2 fun z H3 => rPF a C f z H3 R) : rFA K f tb rd σ (.ref a) H R := ⟨a, C, dx, fs, v, rfl, h, c, n, l, q⟩
theorem w_pf {a C dx : Addr} {fs : List (Str × V)} {z : V} {R : Hp → Prop} (h : H a = some (.ins C dx fs)) (l : fs.length < 1000) (q : ∀ H1, Keep [a] H H1 → H1 a = some (.ins C dx (putF f z fs)) → R H1) : rPF a C f z H R := ⟨dx, fs, h, l, q _ (put_ins h) upd_same⟩
end
section
variable {H : Hp} {Q : VK} {i j : Int}
theorem w_rAdd (q : Q (.int (i + j)) H) : rAdd (.int i) (.int j) H Q := ⟨i, j, rfl, rfl, q⟩
theorem w_rSub (q : Q (.int (i - j)) H) : rSub (.int i) (.int j) H Q := ⟨i, j, rfl, rfl, q⟩
end
theorem carry0 {H H' : Hp} {a : Addr} {o : HO} (k : Keep [] H H') (h : H a = some o) : H' a = some o := k.get h (by simp)
end W

end
section
set_option maxHeartbeats 4000000
/-! W4: a list comprehension whose item may raise -/
namespace W
open PySem PySem.Spec L2 PySem.HandSPX
theorem note_cong {x : Value} {ce env : Env} (h : ce.frame = env.frame) : noteFrame x ce = noteFrame x env := by
  unfold noteFrame frameOf
  rw [h]
section
variable {M : Model} {A : Around} {E : Value → Shared → Prop} {s : Shared} {Z : Obj → Prop} {base : Heap} {env : Env} {outer : List Env} {L C e : Addr}
/-- noted by this frame, whatever frame noted it last -/
theorem note_held {Q : Unit → Shared → Prop} (hZ : Steady Z) (hfr : A.frames = some (env :: outer)) (hf : env.frame = some L) (hne : C ≠ L) (hfl : HeldZ base (env :: outer) e Z C s.heap)
    (hQ : ∀ h', HeldZ base (env :: outer) e Z L h' → s.heap.UpToSlots h' → Q () { s with heap := h' }) : wpAny M A (noteFrame (.ref e) env) Q E s := by
  obtain ⟨hkb, hen, hl, oe, vs, T, oT, ts, he, hz, hd, h1, hnT, hTe, hT, hdT, h3⟩ := hfl
  unfold noteFrame
  simp only [hf]
  refine wpAny_bind (wpAny_field he hd h1 ?_)
  rw [if_pos (show (Value.ref T != Value.none) = true from by simp)]
  refine wpAny_bind (wpAny_field hT hdT h3 ?_)
  rw [if_neg (show ¬ ((rawInt C == rawInt L) = true) from fun h => hne (by simp [rawInt] at h; exact Int.ofNat.inj h))]
  refine wpAny_bind (wpAny_setField hT hdT (Array.getElem?_eq_some_iff.mp h3).1 ?_)
  have other : ∀ b, b ≠ T → (s.heap.update T (Obj.mapFields (·.setIfInBounds 3 Value.none))).get? b = s.heap.get? b := fun b hb => Heap.get?_update_other _ _ (Ne.symm hb)
  have noRecord : ∀ b o, s.heap.get? b = some o → (∀ vs, o.data ≠ .fields vs) → b ≠ T := fun b o hb hnf q => by
    rw [q, hT] at hb; injection hb with hb; subst hb; exact hnf ts hdT
  refine wpAny_entryZ hZ hfr (hl.of_keeps fun b o hb hnf => ⟨o, (other b (noRecord b o hb hnf)).trans hb, rfl⟩) hf ((other e (Ne.symm hTe)).trans he)
    (fun b o hbo => (other b fun q => by rw [q, hnT] at hbo; cases hbo).trans (hkb b o hbo)) hen hd (Array.getElem?_eq_some_iff.mp h1).1 hz fun h' hN => ?_
  obtain ⟨x1, x2, x3, x4⟩ := hN
  exact hQ h' ⟨x1, hen, x2, x3⟩ fun b o hb hnf => x4 b o ((other b (noRecord b o hb hnf)).trans hb) hnf
theorem note_sky {Q : Unit → Shared → Prop} (hZ : Steady Z) (hfr : A.frames = some (env :: outer)) (hf : env.frame = some L) (x : Sky base (env :: outer) e Z C s.heap)
    (hQ : ∀ h', HeldZ base (env :: outer) e Z L h' → s.heap.UpToSlots h' → Q () { s with heap := h' }) : wpAny M A (noteFrame (.ref e) env) Q E s := by
  rcases x with ⟨hB, hn, hl, oe, vs, he, hz, hd, h1⟩ | fl | hh
  · exact look_newZ hZ hfr hl hf he hB hn hd h1 hz hQ
  · exact looks_onZ hZ hfr hf fl hQ
  · by_cases h : C = L
    · subst h
      exact againZ hf hh.2.2.2 (hQ s.heap hh (Heap.UpToSlots.refl _))
    · exact note_held hZ hfr hf h hh hQ
end
/-- the block's own names let go: what is told of the exception stays -/
theorem held_but {B B' h h' : Heap} {l : List Env} {e L C : Addr} {Z : Obj → Prop} (hh : HeldZ B l e Z L h) (bC : ∃ o, B.get? C = some o) (sb : Heap.SameBut C h h') (h1 : ∀ b, b ≠ C → B'.get? b = B.get? b) (h2 : B'.get? C = none) : HeldZ B' l e Z L h' := by
  obtain ⟨hkb, hen, hl, oe, vs, T, oT, ts, he, hz, hd, h3, hnT, hTe, hT, hdT, h4⟩ := hh
  obtain ⟨oC, bC⟩ := bC
  have ne : ∀ {b : Addr}, B.get? b = none → b ≠ C := fun hb z => by rw [z, bC] at hb; cases hb
  refine ⟨fun b o hb => ?_, ?_, ?_, oe, vs, T, oT, ts, ?_, hz, hd, h3, ?_, hTe, ?_, hdT, h4⟩
  · have hb2 : b ≠ C := fun z => by rw [z, h2] at hb; cases hb
    rw [h1 b hb2] at hb
    rw [sb.2 b hb2]; exact hkb b o hb
  · rw [h1 e (ne hen)]; exact hen
  · clear he hd h3 hT hdT h4
    induction l with
    | nil => trivial
    | cons ev rest ih =>
      obtain ⟨hk, ⟨Lf, o, hf, hn, ho, hdf⟩, hr⟩ := hl
      exact ⟨hk, ⟨Lf, o, hf, by rw [h1 Lf (ne hn)]; exact hn, by rw [sb.2 Lf (ne hn)]; exact ho, hdf⟩, ih hr⟩
  · rw [sb.2 e (ne hen)]; exact he
  · rw [h1 T (ne hnT)]; exact hnT
  · rw [sb.2 T (ne hnT)]; exact hT
/-- what stands behind a block's run, an exception told with the block's own frame -/
def compX (M : Model) (A : Around) (E : Value → Shared → Prop) (Q : Value → Shared → Prop) (acc : Value) (ce : Env) (r : Result) (s' : Shared) : Prop :=
  match r with
  | .ok _ => ∃ m, s'.heap.Ns ce.locals m ∧ ∀ h', Heap.SameBut ce.locals s'.heap h' → Q acc { s' with heap := h' }
  | .error x => ∃ m, s'.heap.Ns ce.locals m ∧ ∀ h', Heap.SameBut ce.locals s'.heap h' → wpAny M A (passOn "comprehension.variables-let-go" x ce : Sem Value) (fun _ _ => False) E { s' with heap := h' }
theorem comp_free {M : Model} {A : Around} {E : Value → Shared → Prop} {s : Shared} {env : Env} {e : Expr} {scope : Scope} {pos : Pos} {newAcc first : Sem Value} {g : Comprehension} {gs : List Comprehension} {cl : List (Str × Addr)}
    {Q : Value → Shared → Prop} (hcl : clausesOf e = g :: gs) (hs : ∀ x, foldedSetIterable g.iter env x = pure x) (hclos : closureFor scope env = pure cl)
    (hkind : scope.kind = .function) (hnames : ∀ x ∈ scope.names, x.2 = .local → scope.names.lookup x.1 = some .local)
    (h : wpAny M A first (fun x s₁ => wpAny M A (pyIter x) (fun it s₂ => wpAny M A newAcc (fun acc s₃ =>
      wpAny M A (newFunctionEnv scope env.globals cl [] env.qual none .none (some env)) (fun cenv s₄ =>
        codeAny M A (.compStart e 0 it acc { cenv with scope := relabel scope env }) (compX M A E Q acc { cenv with scope := relabel scope env }) s₄) E s₃) E s₂) E s₁) E s) :
    wpAny M A (comprehension e scope env pos newAcc false first none) Q E s := by
  unfold comprehension
  rw [hclos, hcl]
  refine wpAny_bind (wpAny_mono h (fun x s₁ h₁ => wpAny_bind (wpAny_standAt (wpAny_bind (wpAny_of_eq (hs x) (wpAny_bind (wpAny_holding (wpAny_mono h₁ (fun it s₂ h₂ =>
    wpAny_standIf (wpAny_bind (wpAny_mono h₂ (fun acc s₃ h₃ => wpAny_bind (wpAny_pure (wpAny_bind (wpAny_mono h₃ (fun cenv s₄ h₄ => ?_) fun _ _ h' => h')))) fun _ _ h' => h')))
      fun _ _ h' => h'))))))) fun _ _ h' => h')
  dsimp only
  have hv : ∀ x ∈ (scope.names.filter fun x => (x.2 == .local || x.2 == .cell) && x.1 != (".0" : Str)).reverse, x.2 = .local →
      Env.kindOf { cenv with scope := relabel scope env } x.1 = some .local := fun x hx hl => lookup_relabel_local (hnames x (List.mem_filter.mp (List.mem_reverse.mp hx)).1 hl)
  refine wpAny_holding (wpAny_bind (wpAny_attempt (wpAny_holding (wpAny_run (codeAny_mono h₄ fun r s' hr => ?_)))))
  cases r with
  | ok f =>
    obtain ⟨m, hn, hr⟩ := hr
    exact wpAny_bind (wpAny_holding (wpAny_comp_letGo (cenv := { cenv with scope := relabel scope env }) hkind _ s' m hv hn fun h' m' _ hs' => wpAny_pure (hr h' hs')))
  | error x =>
    obtain ⟨m, hn, hr⟩ := hr
    exact wpAny_bind (wpAny_holding (wpAny_comp_letGo (cenv := { cenv with scope := relabel scope env }) hkind _ s' m hv hn fun h' m' _ hs' => wpAny_mono (hr h' hs') (fun _ _ f => f.elim) fun _ _ y => y))
/-- an exception of the block's item goes on from the def -/
theorem comp_takes {X : Cx} {E : XK} {pins : List (Addr × Obj)} {σ : L2.St} {H3 : Hp} {s3 : Shared} {scope : Scope} {ce : Env} {fp : List Addr} {Q : Value → Shared → Prop} {D : Addr}
    (hs : X.stack = X.env :: X.outer) (hf : X.env.frame = some X.env.locals) (tk : Takes X (fun cls d _ H => E cls d H)) (I3 : Inv X pins σ H3 s3) (hce : ce.frame = X.env.frame) (hC : ce.locals = s3.heap.objs.size)
    (hfp : ∀ b ∈ fp, (b ∈ X.ex ∨ X.s_0.heap.objs.size ≤ b) ∧ b ≠ X.env.locals ∧ (∀ x c, X.env.cells.lookup x = some c → c ≠ b) ∧ ∀ p ∈ X.pn ++ pins, p.1 ≠ b) :
    Takes ((X.blk s3 H3 scope ce fp).wish (notedBy (model X.prog X.w) X.A ce fun x s' => compX (model X.prog X.w) X.A X.xe Q (.ref D) ce (.error x) s')) (fun cls d _ H => E cls d H) := by
  rintro u s' ⟨a, B, sI, pins', σ', H', cls, d, rfl, I', nb, up, sky, na, os, ag, w⟩
  have hfr : X.A.frames = some (X.env :: X.outer) := by rw [I3.ok.frames, hs]
  have sky1 : Sky B X.stack a (Zc cls d) ce.locals s'.heap := sky
  rw [hs] at sky1
  show wpAny (model X.prog X.w) X.A (noteFrame (.ref a) ce) _ _ s'
  rw [note_cong hce]
  refine note_sky Zc.steady hfr hf sky1 (fun h1 hh up1 => ?_)
  -- the block's own names stand at C
  have I7 : Inv X pins σ H' sI := I3.call' (ch := fp) I'.os I'.base I'.hok I'.bare hfp
  obtain ⟨m, hn, _⟩ := I'.loc
  have hn : sI.heap.Ns ce.locals m := hn
  have nC : H' ce.locals = none := I'.free
  have nCf : ce.locals ∉ frs X.stack := fun hm => by
    rw [hC] at hm
    rcases List.mem_cons.mp (I3.stkSub _ hm) with z | z
    · have := I3.lt
      rw [← z] at this
      exact absurd this (Nat.lt_irrefl _)
    · exact I3.nofs (Nat.le_refl _) z
  obtain ⟨oC, esC, epC, hoC, rC⟩ := hn
  have bC := nb _ _ hoC nCf
  have hnC : h1.Ns ce.locals m := ⟨oC, esC, epC, hh.1 _ _ bC, rC⟩
  refine ⟨m, hnC, fun h2 sb => ?_⟩
  obtain ⟨B', b1, b2⟩ := restrict B fun b => decide (b ≠ ce.locals)
  obtain ⟨G, g1, g2⟩ := restrict sI.heap fun b => decide (b ≠ ce.locals)
  have hh2 := held_but hh ⟨_, bC⟩ sb (fun b hb => b1 b (by simp [hb])) (b2 _ (by simp))
  have hh2' := hh2
  obtain ⟨k1, k2, k3, oe, vs, T, oT, ts, he, hz, hd, h3, hnT, hTe, hT, hdT, h4⟩ := hh2'
  unfold passOn
  refine wpAny_bind (wpAny_field he hd h3 ?_)
  rw [if_neg (show ¬ ((Value.ref T == Value.none) = true) from by simp)]
  rw [hce, hf]
  refine wpAny_bind (setFlight_onZ hh2 fun h5 hh5 up5 => wpAny_throw ?_)
  have I9 : Inv X pins σ H' { sI with heap := G } := I7.turned (it := ce.locals) (t' := sI.toks) (fun b o hb e => by rw [g1 b (by simp [hb])]; exact e) nC (by rw [hC]; exact Nat.ne_of_gt I3.lt) (.inr (by rw [hC]; exact I3.sz))
    (fun x c e => (I3.fpOk (Nat.le_of_eq hC.symm) nC).2.2.2.2.1 x c e) (fun p hp => (I3.fpOk (Nat.le_of_eq hC.symm) nC).2.2.2.2.2 p hp)
  have og : ∀ b o, G.get? b = some o → b ≠ ce.locals ∧ sI.heap.get? b = some o := fun b o e => by
    by_cases hb : b = ce.locals
    · rw [g2 b (by simp [hb])] at e; cases e
    · rw [g1 b (by simp [hb])] at e; exact ⟨hb, e⟩
  refine tk _ _ ⟨a, B', { sI with heap := G }, pins, σ, H', cls, d, rfl, I9, fun b o e hb => ?_, fun b o e hnf => ?_, ?_, na, os, ag, w⟩
  · obtain ⟨z1, z2⟩ := og b o e
    rw [b1 b (by simp [z1])]
    exact nb b o z2 hb
  · obtain ⟨z1, z2⟩ := og b o e
    obtain ⟨sl, q⟩ := (up.trans up1) b o z2 hnf
    have q2 : h2.get? b = some { o with slots := sl } := by rw [sb.2 b z1]; exact q
    obtain ⟨sl2, q3⟩ := up5 b _ q2 hnf
    exact ⟨sl2, q3⟩
  · rw [hs]
    exact .inr (.inr hh5)
/-- [elt for target in iter if ..], elt may raise: pe_lc with another wish for the item -/
theorem pe_lcX {X : Cx} {E : XK} {elt tg iter : Expr} {ifs : List Expr} {scope : Scope} {own : List (Str × Nat)} {pos : Pos} {wi : TI} {g : TG} {tt : TT} {te : TE} (hst : X.stack = X.env :: X.outer) (hfm : X.env.frame = some X.env.locals) (tk : Takes X (fun cls d _ H => E cls d H))
    (hc : X.calm = true) (hN : X.N.Nodup) (hi : PI X tg iter wi) (ok : BlkOk X.N X.env.scope scope own)
    (hg : ∀ (s : Shared) (H : Hp) (C : Addr) (cl : List (Str × Addr)) (fp : List Addr), PG (X.blk s H scope (compEnvC scope cl C X.env) fp) tg g) (ht : ∀ (s : Shared) (H : Hp) (C : Addr) (cl : List (Str × Addr)) (fp : List Addr), PTs (X.blk s H scope (compEnvC scope cl C X.env) fp) ifs tt)
    (he : ∀ (s : Shared) (H : Hp) (C : Addr) (cl : List (Str × Addr)) (fp : List Addr) (xe : Value → Shared → Prop), Takes ((X.blk s H scope (compEnvC scope cl C X.env) fp).wish xe) (fun cls d _ H => E cls d H) → PE ((X.blk s H scope (compEnvC scope cl C X.env) fp).wish xe) elt te)
    (hs : ∀ x, foldedSetIterable iter X.env x = pure x := by intro _; rfl) :
    PE X (.ListComp elt [⟨tg, iter, ifs, 0⟩] scope pos) (tLc wi g tt te (own.map (·.2))) := by
  refine ⟨fun pins s σ H Q I h => ?_⟩
  rw [eval_ListComp]
  have hfree : ∀ y ∈ scope.names, y.2 = .free → ∃ c, X.env.cells.lookup y.1 = some c := fun y hy e => by
    rcases ok.free y hy e with k | k
    · exact I.ok.has _ (.inl k)
    · exact I.ok.has _ (.inr k)
  refine comp_free rfl hs (closure_ok hfree) ok.kind (fun y hy e => by rw [ok.uniq y hy, e])
    (thn (hi.run pins s σ H _ I h) fun xv s1 hx => thn hx fun itv s2 h2 => ?_)
  obtain ⟨it, fp, tn, J, H2, e, I2, T, st2, f2, q⟩ := h2
  subst e
  refine wpAny_newObj_type (newEnv_comp ?_) (by show 0 ≤ sizeLine; decide)
  generalize hD : s2.heap.objs.size = D
  have hDn : H2 D = none := I2.hok.fresh (Nat.le_of_eq hD)
  obtain ⟨W, ⟨m0, w0⟩, turn⟩ := q D hDn
  generalize hs3 : ({ s2 with heap := s2.heap.push { cls := .type "list", data := .seq ([] : List Value).toArray } } : Shared) = s3
  have I3 : Inv X pins σ (upd H2 D (.lst [])) s3 := by
    rw [← hs3]
    refine I2.laid (t' := s2.toks) (fun b o e => Heap.get?_push_of_some _ e) (Nat.le_of_eq hD) ⟨Nat.zero_le _, [], 0, .nil, ?_⟩
    rw [← hD]
    exact Heap.get?_push_size _ rfl
  have h3 : s3.heap = s2.heap.push { cls := .type "list", data := .seq ([] : List Value).toArray } := by rw [← hs3]
  have f3 : ∀ b ∈ fp, FpOk X pins (upd H2 D (.lst [])) b ∧ b < s3.heap.objs.size := fun b hb => by
    obtain ⟨o, e, _⟩ := T.obj _ _ st2 b hb
    have hlt := Heap.lt_size e
    refine ⟨⟨?_, (f2 b hb).2⟩, by rw [h3, Heap.size_push]; exact Nat.lt_succ_of_lt hlt⟩
    rw [upd_ne (by rw [← hD]; exact Nat.ne_of_lt hlt)]
    exact (f2 b hb).1
  have st3 : tn 0 s3.heap := T.keep _ _ _ st2 fun b _ o e => by rw [h3]; exact Heap.get?_push_of_some _ e
  have I4 := block_start I3 ok hN f3
  generalize hcl : cellsFrom (s3.heap.objs.size + 1) scope.names (cloFrom X.env.cells scope.names []) = cl at I4
  have pg := hg s3 (upd H2 D (.lst [])) s3.heap.objs.size cl fp
  have pt := ht s3 (upd H2 D (.lst [])) s3.heap.objs.size cl fp
  have pe := he s3 (upd H2 D (.lst [])) s3.heap.objs.size cl fp
  have hch : ∀ b ∈ fp, (b ∈ X.ex ∨ X.s_0.heap.objs.size ≤ b) ∧ b ≠ X.env.locals ∧ (∀ x c, X.env.cells.lookup x = some c → c ≠ b) ∧ ∀ p ∈ X.pn ++ pins, p.1 ≠ b := fun b hb => ⟨(f3 b hb).1.2.2.2.1, (f3 b hb).1.2.1, (f3 b hb).1.2.2.2.2.1, (f3 b hb).1.2.2.2.2.2⟩
  show codeAny _ _ (.compStart (.ListComp elt [⟨tg, iter, ifs, 0⟩] scope pos) 0 (.ref it) (.ref D) (compEnvC scope cl s3.heap.objs.size X.env)) (compX (model X.prog X.w) X.A X.xe (EP X pins σ Q) (.ref D) (compEnvC scope cl s3.heap.objs.size X.env)) { s3 with heap := pushCells (s3.heap.push { cls := .type "dict", data := .dict #[] }) scope.names }
  have nfp : ∀ b ∈ fp, (upd H2 D (.lst [])) b = none := fun b hb => (f3 b hb).1.1
  have cF : (compEnvC scope cl s3.heap.objs.size X.env).frame = X.env.frame := rfl
  have cL : (compEnvC scope cl s3.heap.objs.size X.env).locals = s3.heap.objs.size := rfl
  generalize compEnvC scope cl s3.heap.objs.size X.env = ce at I4 pg pt pe cF cL ⊢
  generalize hH3 : upd H2 D (.lst []) = H3 at I3 I4 pg pt pe w0 nfp f3
  generalize hs4 : ({ s3 with heap := pushCells (s3.heap.push { cls := .type "dict", data := .dict #[] }) scope.names } : Shared) = s4 at I4 ⊢
  have st4 : tn 0 s4.heap := T.keep _ _ _ st3 fun b _ o e => by rw [← hs4]; exact pushCells_keeps _ _ _ _ (Heap.get?_push_of_some _ e)
  have stat : ∀ {σ' : L2.St} {H' : Hp} {s' : Shared}, Inv (X.blk s3 H3 scope ce fp) [] σ' H' s' → (∀ b ∈ fp, H' b = none) → ∀ b ∈ fp, FpOk (X.blk s3 H3 scope ce fp) [] H' b := fun {σ' H' s'} I' hn b hb =>
    ⟨hn b hb, (I'.ok.exf b hb).1, I'.ok.exfs b hb, .inl hb, fun x c e => (I'.ok.exf b hb).2 x c e, fun p hp => absurd (show p ∈ ([] : List (Addr × Obj)) ++ [] from hp) (by simp)⟩
  have pe2 := pe _ (comp_takes (Q := EP X pins σ Q) (D := D) (scope := scope) hst hfm tk I3 cF cL hch)
  have loop : codeAny (model X.prog X.w) X.A (.compLoop (.ListComp elt [⟨tg, iter, ifs, 0⟩] scope pos) 0 (.ref it) (.ref D) ce) (compX (model X.prog X.w) X.A X.xe (EP X pins σ Q) (.ref D) ce) s4 := by
    refine compLoop_any (fun n s' => ∃ i H', Inv (X.blk s3 H3 scope ce fp) [] (wipe σ (own.map (·.2))) H' s' ∧ tn i s'.heap ∧ (∀ b ∈ fp, H' b = none) ∧ W i n H') ?_ m0 ⟨0, H3, I4, st4, nfp, w0⟩
    rintro n s5 ⟨i, H5, I5, st5, n5, w5⟩
    rcases turn i n H5 w5 with ⟨stop, qq⟩ | ⟨go, Nx, hNx, step⟩
    · have td := T.done (X.blk s3 H3 scope ce fp) rfl rfl rfl hc i [] s5 _ H5 (fun _ _ => False) I5 (stat I5 n5) st5 stop
      refine thnF td fun r s6 ⟨hr, I6⟩ => ?_
      subst hr
      have I7 : Inv X pins σ H5 s6 := I3.call' (ch := fp) I6.os I6.base I6.hok I6.bare hch
      have nC : H5 s3.heap.objs.size = none := by
        have z : H5 ce.locals = none := I6.free
        rw [cL] at z
        exact z
      obtain ⟨m, hn, _⟩ := I6.loc
      have hn : s6.heap.Ns ce.locals m := hn
      obtain ⟨f0, f1, f2, f3, f4, f5⟩ := I3.fpOk (H' := H5) (Nat.le_refl _) nC
      refine ⟨m, hn, fun h'' sb => ?_⟩
      rw [cL] at sb
      exact ⟨.ref D, H5, I7.turned (t' := s6.toks) (fun b o hb e => (sb.2 b hb).trans e) f0 f1 f3 f4 f5, rfl, qq⟩
    · have ti := T.item (X.blk s3 H3 scope ce fp) rfl rfl rfl hc i [] s5 _ H5 (fun _ _ => False) I5 (stat I5 n5) st5 go
      refine thnF ti fun r s6 ⟨u, hr, h6⟩ => ?_
      subst hr
      refine thnF h6 fun _ s7 ⟨x, H7, I7, r7, y7, st7, n7⟩ => ?_
      have I7' := I7.pinned (stat I7 n7) (T.obj _ _ st7)
      refine thnF (pg.run _ s7 _ H7 x u _ I7' r7 (step x H7 y7)) fun _ s8 ⟨σ8, H8, I8, hw8, q8⟩ => ?_
      refine thnF (pt.run _ s8 σ8 H8 _ I8 q8) fun b s9 ⟨H9, I9, q9⟩ => ?_
      have fin : ∀ {s' : Shared} {H' : Hp}, Inv (X.blk s3 H3 scope ce fp) ([] ++ pinsAt fp s7.heap) σ8 H' s' → Nx H' → ∃ m, m < n ∧ ∃ i H', Inv (X.blk s3 H3 scope ce fp) [] (wipe σ (own.map (·.2))) H' s' ∧ tn i s'.heap ∧ (∀ b ∈ fp, H' b = none) ∧ W i m H' := fun {s' H'} I' nx => by
        obtain ⟨m', hm, w'⟩ := hNx H' nx
        have pin' : ∀ b ∈ fp, ∀ o, s7.heap.get? b = some o → s'.heap.get? b = some o ∧ H' b = none := fun b hb o e =>
          let z := I'.pin (b, o) (List.mem_append_right _ (List.mem_append_right _ (mem_pinsAt hb e)))
          ⟨z.1, z.2.1⟩
        have hl : (wipe σ (own.map (·.2))).length = σ8.length := by rw [← hw8, wipe_length]
        refine ⟨m', hm, i + 1, H', (I'.unpinned (pins := [])).weak hl (fun j v e => ?_), T.keep _ _ _ st7 fun b hb o e => (pin' b hb o e).1, fun b hb => ?_, w'⟩
        · rw [← hw8] at e
          exact (wipe_some e).1
        · obtain ⟨o, e, _⟩ := T.obj _ _ st7 b hb
          exact (pin' b hb o e).2
      cases b with
      | false =>
        simp only [Bool.false_eq_true, if_false] at q9 ⊢
        exact fin I9 q9
      | true =>
        simp only [if_true] at q9 ⊢
        refine wpAny_mono (pe2.run _ s9 σ8 H9 _ (I9.wish _) q9) (fun z s10 ⟨yv, H10, I10, r10, acc, hD10, hz10, nx⟩ => ?_) fun _ _ z => z
        exact app_ok (X := X.blk s3 H3 scope ce fp) I10.unwish hD10 hz10 r10 fun s11 I11 => fin I11 nx
  exact codeAny_compStart_list loop (T.self X.A 0 _ _ _ st4 loop)
/-! a list comprehension over a tuple; ord -/
section
variable {K : PySem.W.Frag} {g : TG} {tt : TT} {te : TE} {vs : List Nat} {σ : L2.St} {H : Hp} {Q : VK} {a : Addr} {xs : List V} {tl : TE}
def kLcT (K : PySem.W.Frag) (g : TG) (tt : TT) (te : TE) (vs : List Nat) (σ : L2.St) (x : V) (H : Hp) (Q : VK) : Prop := tLc (iTup K (tC x)) g tt te vs σ H Q
theorem e_lcT (h : tl σ H fun x H1 => kLcT K g tt te vs σ x H1 Q) : tLc (iTup K tl) g tt te vs σ H Q := h
theorem lcT (h : SqT K H a xs) (Pv : Addr → Nat → Hp → Prop) (h0 : ∀ D H1, H D = none → Keep [] H H1 → H1 D = some (.lst []) → Pv D 0 H1) (hl : ∀ D i H, i ≤ xs.length → Pv D i H → SqT K H a xs)
    (hs : ∀ D i x H', H D = none → xs[i]? = some x → Pv D i H' → g x (wipe σ vs) H' fun σ2 H2 => wipe σ2 vs = wipe σ vs ∧ tt σ2 H2 fun b H3 => if b = true then te σ2 H3 fun y H4 => rApp D y H4 (Pv D (i + 1)) else Pv D (i + 1) H3)
    (hd : ∀ D H', H D = none → Pv D xs.length H' → Q (.ref D) H') : kLcT K g tt te vs σ (.ref a) H Q :=
  ⟨a, rfl, ⟨xs, h⟩, fun D hD => lc_tup (Pv D) (h0 D _ hD (Keep.new hD) upd_same) (hl D) (fun i x H' hi p => hs D i x H' hD hi p) (fun H' p => hd D H' hD p)⟩
end
def rOrd (xs : List V) (H : Hp) (Q : VK) : Prop := ∃ x : Str, xs = [.str x] ∧ x.length = 1 ∧ Q (.int (x.cps.getD 0 0 : Nat)) H
theorem call_ordR {X : Cx} : CallR X (.builtin "ord") rOrd := call_ord
theorem w_ord {H : Hp} {Q : VK} {c : Nat} (q : Q (.int (c : Int)) H) : rOrd [.str ⟨#[c]⟩] H Q := ⟨_, rfl, rfl, q⟩
theorem w_catT {K : PySem.W.Frag} {H : Hp} {Q : VK} {a b : Addr} {xs zs : List V} (h : SqT K H a xs) (h2 : SqT K H b zs) (n : xs ≠ []) (n2 : zs ≠ []) (z : xs.length + zs.length ≤ sizeLine) (q : ∀ l H1, H l = none → Keep [] H H1 → H1 l = some (.tup (xs ++ zs)) → Q (.ref l) H1) : rCatT K (.ref a) (.ref b) H Q :=
  ⟨a, b, xs, zs, rfl, rfl, h, h2, n, z, fun y => absurd y n2, fun _ l hl => q l _ hl (Keep.new hl) upd_same⟩
theorem e_callS {tr : TA} {σ : L2.St} {H : Hp} {Q : VK} {sp : Sp} {E : L2.St → XK} (h : tr σ H fun vs H1 => sp vs H1 Q (E σ)) : tCallS sp E tr σ H Q := h
/-- a comprehension in a comprehension's item: nothing free in it -/
theorem blkOk_in {N : List Str} {sc sc0 scope : Scope} {own : List (Str × Nat)} (h : BlkOk N sc0 scope own) (nf : (scope.names.all fun y => match y.2 with | .free => false | _ => true) = true) : BlkOk N sc scope own :=
  have fr : ∀ y ∈ scope.names, y.2 = .free → False := fun y hy e => by
    have := List.all_eq_true.mp nf y hy
    simp only [e] at this
    exact Bool.noConfusion this
  ⟨h.kind, h.uniq, h.ix, fun y hy e => (fr y hy e).elim, h.own⟩
end W

end
section
set_option maxHeartbeats 4000000
/-! W5: repeated lists and tuples -/
namespace W
open PySem PySem.Spec L2
theorem op_repTK {X : Cx} {K : PySem.W.Frag} (hK : X.K = K := by rfl) : OpR X (binaryOp .Mult) (rRepT K) := by subst hK; exact op_repT
theorem w_repT {K : PySem.W.Frag} {H : Hp} {Q : VK} {l : Addr} {k : Int} {xs : List V} (h : SqT K H l xs) (n : xs ≠ []) (hk : 2 ≤ k ∧ k ≤ 1000) (hl : xs.length ≤ 1000) (q : ∀ p H1, H p = none → Keep [] H H1 → H1 p = some (.tup (List.replicate k.toNat xs).flatten) → Q (.ref p) H1) : rRepT K (.ref l) (.int k) H Q :=
  ⟨l, k, xs, rfl, rfl, h, n, hk.1, hk.2, hl, fun p hp => q p _ hp (Keep.new hp) upd_same⟩
theorem w_rep {H : Hp} {Q : VK} {l : Addr} {k : Int} {xs : List V} (h : H l = some (.lst xs)) (hk : 0 ≤ k ∧ k < 2 ^ 62) (z : xs.length * k.toNat ≤ PySem.sizeLine) (q : ∀ p H1, H p = none → Keep [] H H1 → H1 p = some (.lst (List.replicate k.toNat xs).flatten) → Q (.ref p) H1) : rRep (.ref l) (.int k) H Q :=
  ⟨l, k, xs, rfl, rfl, h, by omega, by omega, z, fun p hp => q p _ hp (Keep.new hp) upd_same⟩
end W

end
section
set_option maxHeartbeats 4000000
/-! numbers in bytes: plain Lean -/
namespace My
open W PySem L2
theorem cutV_ne (vs : List V) (s e : Nat) : cutV vs (some (s : Int)) (some (e : Int)) = (vs.drop s).take (e - s) := by
  unfold cutV
  rw [HT.sIx_nat, HT.sIx_nat]
  by_cases h : s ≤ vs.length
  · rw [Nat.min_eq_left h]
    by_cases h2 : e ≤ vs.length
    · rw [Nat.min_eq_left h2]
    · rw [Nat.min_eq_right (by omega)]
      have e1 : (vs.drop s).take (vs.length - s) = vs.drop s := List.take_of_length_le (by rw [List.length_drop]; omega)
      have e2 : (vs.drop s).take (e - s) = vs.drop s := List.take_of_length_le (by rw [List.length_drop]; omega)
      rw [e1, e2]
  · have e1 : vs.drop (min s vs.length) = [] := List.drop_of_length_le (by omega)
    have e2 : vs.drop s = [] := List.drop_of_length_le (by omega)
    rw [e1, e2]; simp
theorem cutV_to (vs : List V) (e : Nat) : cutV vs none (some (e : Int)) = vs.take e := by
  have := cutV_ne vs 0 e
  rw [List.drop_zero, Nat.sub_zero] at this
  rw [← this]; unfold cutV; rw [HT.sIx_none, HT.sIx_nat, HT.sIx_nat]; simp
theorem cutV_from (vs : List V) (n : Nat) : cutV vs (some (n : Int)) none = vs.drop n := by
  have := cutV_ne vs n vs.length
  rw [List.take_of_length_le (by rw [List.length_drop]; omega)] at this
  rw [← this]; unfold cutV; rw [HT.sIx_none, HT.sIx_nat, HT.sIx_nat]; simp
theorem cutV_last (vs : List V) (n : Nat) (h : n ≤ vs.length) (h0 : 0 < n) : cutV vs (some (-(n : Int))) none = vs.drop (vs.length - n) := by
  have : HT.sIx vs.length 0 (some (-(n : Int))) = vs.length - n := by
    show (if -(n : Int) < 0 then (-(n : Int) + (vs.length : Int)).toNat else _) = _
    rw [if_pos (by omega)]; omega
  rw [← cutV_from]
  unfold cutV
  rw [this, HT.sIx_nat, Nat.min_eq_left (by omega)]
theorem eqvAll_ints : ∀ a b : List Int, PyData.eqvAll (a.map .int) (b.map .int) = decide (a = b)
  | [], [] => by simp [PyData.eqvAll]
  | [], _ :: _ => by simp [PyData.eqvAll]
  | _ :: _, [] => by simp [PyData.eqvAll]
  | x :: a, y :: b => by
    have := eqvAll_ints a b
    have e1 : PyData.eqv (.int x) (.int y) = (x == y) := by simp only [PyData.eqv]
    simp only [List.map_cons, PyData.eqvAll, e1, this]
    by_cases h : x = y
    · subst h; simp
    · simp [h]
theorem eqv_ints (a b : List Int) : PyData.eqv (.list (a.map .int)) (.list (b.map .int)) = decide (a = b) := by
  simp only [PyData.eqv]; exact eqvAll_ints a b
/-- a number's bytes -/
def wn (n : Nat) : List Int := if n < 128 then [(n : Int)] else ((n % 128 + 128 : Nat) : Int) :: wn (n / 128)
termination_by n
decreasing_by omega
theorem wn_lo {n : Nat} (h : n < 128) : wn n = [(n : Int)] := by rw [wn, if_pos h]
theorem wn_hi {n : Nat} (h : ¬ n < 128) : wn n = ((n % 128 + 128 : Nat) : Int) :: wn (n / 128) := by rw [wn, if_neg h]
theorem wn_len : ∀ (k n : Nat), n < 128 ^ (k + 1) → (wn n).length ≤ k + 1
  | 0, n, h => by rw [wn_lo (by omega)]; simp
  | k + 1, n, h => by
    by_cases h1 : n < 128
    · rw [wn_lo h1]; simp
    · rw [wn_hi h1, List.length_cons]
      have := wn_len k (n / 128) (by rw [Nat.div_lt_iff_lt_mul (by omega)]; rw [Nat.pow_succ] at h; exact h)
      omega
theorem wn_pos (n : Nat) : 0 < (wn n).length := by
  by_cases h : n < 128
  · rw [wn_lo h]; simp
  · rw [wn_hi h]; simp
/-- the reader of a number: what it takes and the number. f: signs left, i: signs read -/
def rn : Nat → List Int → Nat → Int → Int → Option (Nat × Int)
  | 0, _, _, _, _ => none
  | _ + 1, [], _, _, _ => none
  | f + 1, b :: r, i, t, c => if b < 128 then (if b = 0 ∧ 0 < i then none else some (i + 1, t + b % 128 * c)) else rn f r (i + 1) (t + b % 128 * c) (c * 128)
theorem rn_wn : ∀ (f n : Nat) (r : List Int) (i : Nat) (t c : Int), (wn n).length ≤ f → (0 < n ∨ i = 0) → rn f (wn n ++ r) i t c = some (i + (wn n).length, t + (n : Int) * c)
  | 0, n, _, _, _, _, h, _ => by have := wn_pos n; omega
  | f + 1, n, r, i, t, c, h, h0 => by
    by_cases h1 : n < 128
    · rw [wn_lo h1]
      show (if (n : Int) < 128 then (if (n : Int) = 0 ∧ 0 < i then none else some (i + 1, t + (n : Int) % 128 * c)) else _) = _
      rw [if_pos (by omega), if_neg (by omega), Int.emod_eq_of_lt (by omega) (by omega)]; rfl
    · rw [wn_hi h1] at h ⊢
      rw [List.length_cons] at h
      show (if ((n % 128 + 128 : Nat) : Int) < 128 then _ else rn f (wn (n / 128) ++ r) (i + 1) (t + ((n % 128 + 128 : Nat) : Int) % 128 * c) (c * 128)) = _
      rw [if_neg (by omega), rn_wn f (n / 128) r (i + 1) _ _ (by omega) (.inl (by omega))]
      have e1 : ((n % 128 + 128 : Nat) : Int) % 128 = (n : Int) % 128 := by omega
      have e2 : (n : Int) = (n : Int) % 128 + 128 * ((n / 128 : Nat) : Int) := by omega
      rw [e1, List.length_cons]
      congr 2
      · omega
      · generalize ((n / 128 : Nat) : Int) = q at e2
        generalize (n : Int) % 128 = m at e2
        rw [e2, Int.add_mul, Int.mul_comm 128 q, Int.mul_assoc, Int.mul_comm 128 c, Int.add_assoc]
/-- bytes that all go on: nothing is read -/
theorem rn_on : ∀ (f : Nat) (l : List Int) (i : Nat) (t c : Int), (∀ b ∈ l, 128 ≤ b) → rn f l i t c = none
  | 0, _, _, _, _, _ => rfl
  | _ + 1, [], _, _, _, _ => rfl
  | f + 1, b :: r, i, t, c, h => by
    show (if b < 128 then _ else _) = _
    rw [if_neg (by have := h b (by simp); omega)]
    exact rn_on f r _ _ _ (fun x hx => h x (by simp [hx]))
/-- .. then a needless zero -/
theorem rn_zero : ∀ (f : Nat) (l r : List Int) (i : Nat) (t c : Int), (∀ b ∈ l, 128 ≤ b) → (0 < i ∨ l ≠ []) → rn f (l ++ 0 :: r) i t c = none
  | 0, _, _, _, _, _, _, _ => rfl
  | f + 1, [], r, i, t, c, _, h => by
    have hi : 0 < i := h.elim id fun z => absurd rfl z
    show (if (0 : Int) < 128 then (if (0 : Int) = 0 ∧ 0 < i then none else _) else _) = _
    rw [if_pos (by omega), if_pos ⟨rfl, hi⟩]
  | f + 1, b :: l, r, i, t, c, h, _ => by
    show (if b < 128 then _ else rn f (l ++ 0 :: r) _ _ _) = _
    rw [if_neg (by have := h b (by simp); omega)]
    exact rn_zero f l r _ _ _ (fun x hx => h x (by simp [hx])) (.inl (by omega))
/-- all but the last byte of a number go on -/
theorem wn_init : ∀ (n : Nat) (k : Nat), n ≤ k → ∀ b ∈ (wn n).take ((wn n).length - 1), 128 ≤ b
  | n, 0, h, b, hb => by
    rw [wn_lo (by omega)] at hb; simp at hb
  | n, k + 1, h, b, hb => by
    by_cases h1 : n < 128
    · rw [wn_lo h1] at hb; simp at hb
    · rw [wn_hi h1] at hb
      rw [List.length_cons, Nat.add_sub_cancel] at hb
      have hp := wn_pos (n / 128)
      obtain ⟨m, hm⟩ : ∃ m, (wn (n / 128)).length = m + 1 := ⟨(wn (n / 128)).length - 1, by omega⟩
      rw [hm, List.take_succ_cons] at hb
      rcases List.mem_cons.mp hb with z | z
      · omega
      · exact wn_init (n / 128) k (by omega) b (by rw [hm]; exact z)
theorem wn_byte : ∀ (k n : Nat), n ≤ k → ∀ b ∈ wn n, 0 ≤ b ∧ b < 256
  | 0, n, h, b, hb => by rw [wn_lo (by omega)] at hb; simp at hb; omega
  | k + 1, n, h, b, hb => by
    by_cases h1 : n < 128
    · rw [wn_lo h1] at hb; simp at hb; omega
    · rw [wn_hi h1] at hb
      rcases List.mem_cons.mp hb with z | z
      · omega
      · exact wn_byte k (n / 128) (by omega) b z
end My

end
section
set_option maxHeartbeats 4000000
/-! what is written and read: plain Lean. A reader of bytes ds from place p on tells what it read and where it stands then -/
namespace My
open W PySem L2
theorem rn_nn : ∀ (f : Nat) (l : List Int) (i : Nat) (t c : Int) (j : Nat) (n : Int), 0 ≤ t → 0 ≤ c → rn f l i t c = some (j, n) → 0 ≤ n
  | 0, _, _, _, _, _, _, _, _, h => by cases h
  | _ + 1, [], _, _, _, _, _, _, _, h => by cases h
  | f + 1, b :: r, i, t, c, j, n, ht, hc, h => by
    have hm : 0 ≤ b % 128 * c := Int.mul_nonneg (Int.emod_nonneg _ (by decide)) hc
    have h2 : (if b < 128 then (if b = 0 ∧ 0 < i then none else some (i + 1, t + b % 128 * c)) else rn f r (i + 1) (t + b % 128 * c) (c * 128)) = some (j, n) := h
    split at h2
    · split at h2
      · cases h2
      · cases h2; omega
    · exact rn_nn f r _ _ _ j n (by omega) (by omega) h2
theorem rn_pos : ∀ (f : Nat) (l : List Int) (i : Nat) (t c : Int) (j : Nat) (n : Int), rn f l i t c = some (j, n) → i < j ∧ j ≤ i + l.length
  | 0, _, _, _, _, _, _, h => by cases h
  | _ + 1, [], _, _, _, _, _, h => by cases h
  | f + 1, b :: r, i, t, c, j, n, h => by
    have h2 : (if b < 128 then (if b = 0 ∧ 0 < i then none else some (i + 1, t + b % 128 * c)) else rn f r (i + 1) (t + b % 128 * c) (c * 128)) = some (j, n) := h
    split at h2
    · split at h2
      · cases h2
      · cases h2; simp
    · have := rn_pos f r _ _ _ j n h2
      simp; omega
section
variable {α β : Type}
abbrev Rdr (α : Type) := List Int → Nat → Option (α × Nat)
def pnum : Rdr Nat := fun ds p => (rn 60 (ds.drop p) 0 0 1).map fun z => (z.2.toNat, p + z.1)
theorem pnum_some {ds : List Int} {p i : Nat} {n : Int} (h : rn 60 (ds.drop p) 0 0 1 = some (i, n)) : pnum ds p = some (n.toNat, p + i) ∧ n = (n.toNat : Int) := by
  have := rn_nn _ _ _ _ _ _ _ (by decide) (by decide) h
  exact ⟨by unfold pnum; rw [h]; rfl, by omega⟩
theorem pnum_none {ds : List Int} {p : Nat} (h : rn 60 (ds.drop p) 0 0 1 = none) : pnum ds p = none := by unfold pnum; rw [h]; rfl
theorem pnum_at {ds : List Int} {p q n : Nat} (h : pnum ds p = some (n, q)) (hp : p ≤ ds.length) : p < q ∧ q ≤ ds.length := by
  unfold pnum at h
  cases hr : rn 60 (ds.drop p) 0 0 1 with
  | none => rw [hr] at h; cases h
  | some z =>
    rw [hr] at h
    cases h
    have := rn_pos _ _ _ _ _ z.1 z.2 hr
    rw [List.length_drop] at this
    omega
def pcnt : Rdr Nat := fun ds p => (pnum ds p).bind fun z => if ds.length < z.1 + z.2 then none else some z
theorem pcnt_le {ds : List Int} {p q n : Nat} (h : pcnt ds p = some (n, q)) : n + q ≤ ds.length ∧ pnum ds p = some (n, q) := by
  unfold pcnt at h
  cases hr : pnum ds p with
  | none => rw [hr] at h; cases h
  | some z =>
    rw [hr] at h
    have h : (if ds.length < z.1 + z.2 then none else some z) = some (n, q) := h
    split at h
    · cases h
    · cases h; exact ⟨by omega, rfl⟩
def okch (c : Nat) : Bool := c == 10 || (decide (32 ≤ c) && decide (c < 127) && c != 37)
def psig : Rdr Nat := fun ds p => (pnum ds p).bind fun z => if okch z.1 then some z else none
def pmany (f : Nat → Option (α × Nat)) : Nat → Nat → Option (List α × Nat)
  | 0, p => some ([], p)
  | k + 1, p => (f p).bind fun z => (pmany f k z.2).map fun y => (z.1 :: y.1, y.2)
theorem pmany_snoc (f : Nat → Option (α × Nat)) : ∀ k p, pmany f (k + 1) p = (pmany f k p).bind fun y => (f y.2).map fun z => (y.1 ++ [z.1], z.2)
  | 0, p => by
    show (f p).bind (fun z => (some ([], z.2) : Option (List α × Nat)).map fun y => (z.1 :: y.1, y.2)) = (f p).map _
    cases f p <;> rfl
  | k + 1, p => by
    show (f p).bind (fun z => (pmany f (k + 1) z.2).map fun y => (z.1 :: y.1, y.2)) = ((f p).bind fun z => (pmany f k z.2).map fun y => (z.1 :: y.1, y.2)).bind _
    cases f p with
    | none => rfl
    | some z =>
      show (pmany f (k + 1) z.2).map _ = ((pmany f k z.2).map _).bind _
      rw [pmany_snoc f k z.2]
      cases pmany f k z.2 with
      | none => rfl
      | some y =>
        show ((f y.2).map _).map _ = (f y.2).map _
        cases f y.2 <;> rfl
theorem pmany_none (f : Nat → Option (α × Nat)) {k p : Nat} (h : pmany f k p = none) : ∀ j, pmany f (k + j) p = none
  | 0 => h
  | j + 1 => by rw [← Nat.add_assoc, pmany_snoc, pmany_none f h j]; rfl
theorem pmany_stop (f : Nat → Option (α × Nat)) {k n p q : Nat} {l : List α} (h : pmany f k p = some (l, q)) (hf : f q = none) (hk : k < n) : pmany f n p = none := by
  have h1 : pmany f (k + 1) p = none := by rw [pmany_snoc, h]; show (f q).map _ = none; rw [hf]; rfl
  have := pmany_none f h1 (n - (k + 1))
  rw [show k + 1 + (n - (k + 1)) = n by omega] at this
  exact this
theorem pmany_step (f : Nat → Option (α × Nat)) {k p q r : Nat} {l : List α} {a : α} (h : pmany f k p = some (l, q)) (hf : f q = some (a, r)) : pmany f (k + 1) p = some (l ++ [a], r) := by
  rw [pmany_snoc, h]; show (f q).map _ = _; rw [hf]; rfl
theorem pmany_len (f : Nat → Option (α × Nat)) : ∀ {k p q : Nat} {l : List α}, pmany f k p = some (l, q) → l.length = k
  | 0, _, _, _, h => by cases h; rfl
  | k + 1, p, q, l, h => by
    have h : (f p).bind (fun z => (pmany f k z.2).map fun y => (z.1 :: y.1, y.2)) = some (l, q) := h
    cases hf : f p with
    | none => rw [hf] at h; cases h
    | some z =>
      rw [hf] at h
      have h : (pmany f k z.2).map (fun y => (z.1 :: y.1, y.2)) = some (l, q) := h
      cases hm : pmany f k z.2 with
      | none => rw [hm] at h; cases h
      | some y =>
        rw [hm] at h
        cases h
        simp [pmany_len f hm]
def plist (P : Rdr α) : Rdr (List α) := fun ds p => (pcnt ds p).bind fun z => pmany (P ds) z.1 z.2
theorem plist_len {P : Rdr α} {ds : List Int} {p q : Nat} {l : List α} (h : plist P ds p = some (l, q)) : l.length ≤ ds.length := by
  unfold plist at h
  cases hc : pcnt ds p with
  | none => rw [hc] at h; cases h
  | some z =>
    rw [hc] at h
    have := pmany_len _ h
    have := pcnt_le (ds := ds) (p := p) (q := z.2) (n := z.1) hc
    omega
/-- what is written is read -/
def RT (P : Rdr α) (w : α → List Int) (a : α) : Prop := ∀ x y, P (x ++ (w a ++ y)) x.length = some (a, x.length + (w a).length)
theorem RT.at {P : Rdr α} {w : α → List Int} {a : α} (h : RT P w a) {ds : List Int} {p : Nat} (x y : List Int) (e : ds = x ++ (w a ++ y)) (hp : p = x.length) : P ds p = some (a, p + (w a).length) := by
  subst e hp; exact h x y
theorem RT_num {n : Nat} (h : n < 128 ^ 60) : RT pnum wn n := fun x y => by
  have h1 := rn_wn 60 n y 0 0 1 (wn_len 59 n h) (.inr rfl)
  have h2 : rn 60 ((x ++ (wn n ++ y)).drop x.length) 0 0 1 = some (0 + (wn n).length, 0 + (n : Int) * 1) := by rw [List.drop_left]; exact h1
  unfold pnum; rw [h2]; simp
theorem RT_cnt {n : Nat} (h : n < 128 ^ 60) (x y : List Int) (hy : n ≤ y.length) : pcnt (x ++ (wn n ++ y)) x.length = some (n, x.length + (wn n).length) := by
  unfold pcnt
  rw [RT_num h x y]
  show (if _ then _ else _) = _
  rw [if_neg (by simp only [List.length_append]; omega)]
theorem RT_sig {c : Nat} (h : okch c = true) : RT psig wn c := fun x y => by
  have hc : c < 128 ^ 60 := Nat.lt_of_lt_of_le (show c < 128 by
    unfold okch at h; simp at h; omega) (by decide)
  unfold psig; rw [RT_num hc x y]; show (if okch c = true then _ else _) = _; rw [if_pos h]
def wl (xs : List (List Int)) : List Int := wn xs.length ++ xs.flatten
theorem RT_many {P : Rdr α} {w : α → List Int} : ∀ (as : List α), (∀ a ∈ as, RT P w a) → ∀ x y, pmany (P (x ++ ((as.map w).flatten ++ y))) as.length x.length = some (as, x.length + (as.map w).flatten.length)
  | [], _, x, y => by simp [pmany]
  | a :: as, h, x, y => by
    have h1 := h a (by simp) x ((as.map w).flatten ++ y)
    have ih := RT_many as (fun b hb => h b (by simp [hb])) (x ++ w a) y
    have e : x ++ (((a :: as).map w).flatten ++ y) = x ++ (w a ++ ((as.map w).flatten ++ y)) := by simp
    have e2 : x ++ w a ++ ((as.map w).flatten ++ y) = x ++ (w a ++ ((as.map w).flatten ++ y)) := by simp
    rw [e2, List.length_append] at ih
    rw [e]
    show ((P _ x.length).bind fun z => (pmany (P _) as.length z.2).map fun y => (z.1 :: y.1, y.2)) = _
    rw [h1]
    show (pmany (P _) as.length (x.length + (w a).length)).map _ = _
    rw [ih]
    simp [Nat.add_assoc]
theorem flat_len {w : α → List Int} : ∀ (as : List α), (∀ a ∈ as, 0 < (w a).length) → as.length ≤ (as.map w).flatten.length
  | [], _ => by simp
  | a :: as, h => by
    have := flat_len as (fun b hb => h b (by simp [hb]))
    have := h a (by simp)
    rw [List.map_cons, List.flatten_cons, List.length_append, List.length_cons]; omega
theorem RT_list {P : Rdr α} {w : α → List Int} {as : List α} (h : ∀ a ∈ as, RT P w a) (h1 : ∀ a ∈ as, 0 < (w a).length) (h2 : as.length < 128 ^ 60) : RT (plist P) (fun as => wl (as.map w)) as := fun x y => by
  have hc := RT_cnt h2 x ((as.map w).flatten ++ y) (by have := flat_len as h1; rw [List.length_append]; omega)
  have hm := RT_many as h (x ++ wn as.length) y
  have e : x ++ (wl (as.map w) ++ y) = x ++ (wn as.length ++ ((as.map w).flatten ++ y)) := by simp [wl]
  have e2 : x ++ wn as.length ++ ((as.map w).flatten ++ y) = x ++ (wn as.length ++ ((as.map w).flatten ++ y)) := by simp
  rw [e2, List.length_append] at hm
  unfold plist
  rw [e, hc]
  show pmany _ as.length (x.length + (wn as.length).length) = _
  rw [hm]
  simp [wl, Nat.add_assoc]
end
def pstr : Rdr (List Nat) := plist psig
def ws (s : List Nat) : List Int := wl (s.map wn)
def pmk : Rdr (Nat × Nat) := fun ds p => (pnum ds p).bind fun y => (pnum ds y.2).map fun z => ((y.1, z.1), z.2)
def wm (m : Nat × Nat) : List Int := wn m.1 ++ wn m.2
def pbyte : Rdr Int := fun ds p => if p < ds.length then some (ds.getD p 0, p + 1) else none
def pch : Rdr Int := fun ds p => (pbyte ds p).bind fun z => if 2 ≤ z.1 then none else some z
/-- deeds -/
inductive Dd
  | back (n : Nat)
  | chg (m : List Nat) (rm : List (Nat × Nat)) (bh : Option (Nat × Nat)) (n : Nat) (t : List Nat)
def pbh : Rdr (Option (Nat × Nat)) := fun ds p => (pch ds p).bind fun z => if z.1 = 1 then (pmk ds z.2).map fun y => (some y.1, y.2) else some (none, z.2)
def pdd : Rdr Dd := fun ds p => (pch ds p).bind fun z => if z.1 = 1 then (pnum ds z.2).map fun y => (.back y.1, y.2) else
  (pstr ds z.2).bind fun m => (plist pmk ds m.2).bind fun rm => (pbh ds rm.2).bind fun bh => (pnum ds bh.2).bind fun n => (pstr ds n.2).map fun t => (.chg m.1 rm.1 bh.1 n.1 t.1, t.2)
def wbh : Option (Nat × Nat) → List Int
  | none => [0]
  | some m => 1 :: wm m
def wd : Dd → List Int
  | .back n => 1 :: wn n
  | .chg m rm bh n t => 0 :: (ws m ++ wl (rm.map wm) ++ wbh bh ++ wn n ++ ws t)
structure Tri where
  r : Nat
  p : Nat
  d : Dd
def ptr : Rdr Tri := fun ds p => (pnum ds p).bind fun y => (pnum ds y.2).bind fun z => (pdd ds z.2).map fun d => (⟨y.1, z.1, d.1⟩, d.2)
def wt (t : Tri) : List Int := wn t.r ++ wn t.p ++ wd t.d
def ptrs : Rdr (List Tri) := plist ptr
def wts (ts : List Tri) : List Int := wl (ts.map wt)
def ppk : Rdr (List Tri) := fun ds p => (pbyte ds p).bind fun z => if z.1 = 1 then ptrs ds z.2 else none
def wp (ts : List Tri) : List Int := 1 :: wts ts
def oks (s : List Nat) : Prop := (∀ c ∈ s, okch c = true) ∧ s.length ≤ 1000000
def okn (n : Nat) : Prop := n < 2 ^ 70
def okm (m : Nat × Nat) : Prop := okn m.1 ∧ okn m.2
def okd : Dd → Prop
  | .back n => okn n
  | .chg m rm bh n t => oks m ∧ (∀ x ∈ rm, okm x) ∧ rm.length ≤ 1000 ∧ (∀ x, bh = some x → okm x) ∧ okn n ∧ oks t
def okt (t : Tri) : Prop := okn t.r ∧ okn t.p ∧ okd t.d
theorem okn.lt {n : Nat} (h : okn n) : n < 128 ^ 60 := Nat.lt_of_lt_of_le h (by decide)
theorem RT_str {s : List Nat} (h : oks s) : RT pstr ws s := RT_list (fun a ha => RT_sig (h.1 a ha)) (fun a _ => wn_pos a) (Nat.lt_of_le_of_lt h.2 (by decide))
theorem RT_mk {m : Nat × Nat} (h : okm m) : RT pmk wm m := fun x y => by
  have h1 := RT_num h.1.lt x (wn m.2 ++ y)
  have h2 := RT_num h.2.lt (x ++ wn m.1) y
  have e : x ++ (wm m ++ y) = x ++ (wn m.1 ++ (wn m.2 ++ y)) := by simp [wm]
  have e2 : x ++ wn m.1 ++ (wn m.2 ++ y) = x ++ (wn m.1 ++ (wn m.2 ++ y)) := by simp
  rw [e2, List.length_append] at h2
  unfold pmk
  rw [e, h1]
  show (pnum _ (x.length + (wn m.1).length)).map _ = _
  rw [h2]
  simp [wm, Nat.add_assoc]
theorem RT_byte (b : Int) (x y : List Int) : pbyte (x ++ (b :: y)) x.length = some (b, x.length + 1) := by
  unfold pbyte
  rw [if_pos (by simp), List.getD_eq_getElem?_getD, List.getElem?_append_right (Nat.le_refl _), Nat.sub_self]; rfl
theorem RT_ch {b : Int} (h : b < 2) (x y : List Int) : pch (x ++ (b :: y)) x.length = some (b, x.length + 1) := by
  unfold pch
  rw [RT_byte]
  show (if 2 ≤ b then none else _) = _
  rw [if_neg (by omega)]
theorem wm_pos (m : Nat × Nat) : 0 < (wm m).length := by have := wn_pos m.1; unfold wm; rw [List.length_append]; omega
theorem RT_mks {rm : List (Nat × Nat)} (h : ∀ x ∈ rm, okm x) (h2 : rm.length ≤ 1000) : RT (plist pmk) (fun rm => wl (rm.map wm)) rm := RT_list (fun a ha => RT_mk (h a ha)) (fun a _ => wm_pos a) (Nat.lt_of_le_of_lt h2 (by decide))
theorem RT_bh {bh : Option (Nat × Nat)} (h : ∀ x, bh = some x → okm x) : RT pbh wbh bh := fun x y => by
  unfold pbh
  cases bh with
  | none =>
    have h1 := RT_ch (b := 0) (by decide) x y
    show (pch (x ++ (0 :: y)) x.length).bind _ = _
    rw [h1]; rfl
  | some m =>
    have h1 := RT_ch (b := 1) (by decide) x (wm m ++ y)
    have h2 := (RT_mk (h m rfl)).at (ds := x ++ (1 :: (wm m ++ y))) (p := x.length + 1) (x ++ [1]) y (by simp) (by simp)
    show (pch (x ++ (1 :: (wm m ++ y))) x.length).bind _ = _
    rw [h1]
    show (pmk (x ++ (1 :: (wm m ++ y))) (x.length + 1)).map _ = _
    rw [h2]
    simp [wbh]; omega
theorem RT_dd {d : Dd} (h : okd d) : RT pdd wd d := fun x y => by
  unfold pdd
  cases d with
  | back n =>
    have h1 := RT_ch (b := 1) (by decide) x (wn n ++ y)
    have h2 := (RT_num (okn.lt h)).at (ds := x ++ (1 :: (wn n ++ y))) (p := x.length + 1) (x ++ [1]) y (by simp) (by simp)
    show (pch (x ++ (1 :: (wn n ++ y))) x.length).bind _ = _
    rw [h1]
    show (pnum (x ++ (1 :: (wn n ++ y))) (x.length + 1)).map _ = _
    rw [h2]
    simp [wd]; omega
  | chg m rm bh n t =>
    obtain ⟨o1, o2, o3, o4, o5, o6⟩ := h
    have e : x ++ (wd (.chg m rm bh n t) ++ y) = x ++ 0 :: (ws m ++ (wl (rm.map wm) ++ (wbh bh ++ (wn n ++ (ws t ++ y))))) := by simp [wd]
    rw [e]
    generalize hds : x ++ 0 :: (ws m ++ (wl (rm.map wm) ++ (wbh bh ++ (wn n ++ (ws t ++ y))))) = ds
    have h0 : pch ds x.length = some (0, x.length + 1) := by rw [← hds]; exact RT_ch (b := 0) (by decide) x _
    have h1 := (RT_str o1).at (ds := ds) (p := x.length + 1) (x ++ [0]) (wl (rm.map wm) ++ (wbh bh ++ (wn n ++ (ws t ++ y)))) (by rw [← hds]; simp) (by simp)
    have h2 := (RT_mks o2 o3).at (ds := ds) (p := x.length + 1 + (ws m).length) (x ++ [0] ++ ws m) (wbh bh ++ (wn n ++ (ws t ++ y))) (by rw [← hds]; simp) (by simp; omega)
    have h3 := (RT_bh o4).at (ds := ds) (p := x.length + 1 + (ws m).length + (wl (rm.map wm)).length) (x ++ [0] ++ ws m ++ wl (rm.map wm)) (wn n ++ (ws t ++ y)) (by rw [← hds]; simp) (by simp; omega)
    have h4 := (RT_num o5.lt).at (ds := ds) (p := x.length + 1 + (ws m).length + (wl (rm.map wm)).length + (wbh bh).length) (x ++ [0] ++ ws m ++ wl (rm.map wm) ++ wbh bh) (ws t ++ y) (by rw [← hds]; simp) (by simp; omega)
    have h5 := (RT_str o6).at (ds := ds) (p := x.length + 1 + (ws m).length + (wl (rm.map wm)).length + (wbh bh).length + (wn n).length) (x ++ [0] ++ ws m ++ wl (rm.map wm) ++ wbh bh ++ wn n) y (by rw [← hds]; simp) (by simp; omega)
    rw [h0]
    simp only [Option.bind_some, if_neg (show ¬ ((0 : Int) = 1) by decide)]
    rw [h1]
    simp only [Option.bind_some]
    rw [h2]
    simp only [Option.bind_some]
    rw [h3]
    simp only [Option.bind_some]
    rw [h4]
    simp only [Option.bind_some]
    rw [h5]
    simp [wd]; omega
theorem RT_tr {t : Tri} (h : okt t) : RT ptr wt t := fun x y => by
  obtain ⟨o1, o2, o3⟩ := h
  have e : x ++ (wt t ++ y) = x ++ (wn t.r ++ (wn t.p ++ (wd t.d ++ y))) := by simp [wt]
  rw [e]
  generalize hds : x ++ (wn t.r ++ (wn t.p ++ (wd t.d ++ y))) = ds
  have h1 := (RT_num o1.lt).at (ds := ds) (p := x.length) x (wn t.p ++ (wd t.d ++ y)) hds.symm rfl
  have h2 := (RT_num o2.lt).at (ds := ds) (p := x.length + (wn t.r).length) (x ++ wn t.r) (wd t.d ++ y) (by rw [← hds]; simp) (by simp)
  have h3 := (RT_dd o3).at (ds := ds) (p := x.length + (wn t.r).length + (wn t.p).length) (x ++ wn t.r ++ wn t.p) y (by rw [← hds]; simp) (by simp; omega)
  unfold ptr
  rw [h1]
  simp only [Option.bind_some]
  rw [h2]
  simp only [Option.bind_some]
  rw [h3]
  simp [wt, Nat.add_assoc]
theorem wt_pos (t : Tri) : 0 < (wt t).length := by have := wn_pos t.r; unfold wt; simp only [List.length_append]; omega
theorem RT_trs {ts : List Tri} (h : ∀ t ∈ ts, okt t) (h2 : ts.length ≤ 1000) : RT ptrs wts ts := RT_list (fun a ha => RT_tr (h a ha)) (fun a _ => wt_pos a) (Nat.lt_of_le_of_lt h2 (by decide))
theorem RT_pk {ts : List Tri} (h : ∀ t ∈ ts, okt t) (h2 : ts.length ≤ 1000) : RT ppk wp ts := fun x y => by
  have h1 := RT_byte 1 x (wts ts ++ y)
  have h3 := (RT_trs h h2).at (ds := x ++ (1 :: (wts ts ++ y))) (p := x.length + 1) (x ++ [1]) y (by simp) (by simp)
  unfold ppk
  show (pbyte (x ++ (1 :: (wts ts ++ y))) x.length).bind _ = _
  rw [h1]
  show (if (1 : Int) = 1 then ptrs (x ++ (1 :: (wts ts ++ y))) (x.length + 1) else none) = _
  rw [if_pos rfl, h3]
  simp [wp]; omega
end My

end
section
set_option maxHeartbeats 4000000
namespace My
open PySem L2 W
def topS (i : Nat) : Stmt := PySem.Challenge.pw_planwhole_k13_logs_at_any_cut.main.body.getD i (.Pass ⟨0, 0, 0, 0⟩)
abbrev s__wall : Stmt := topS 0
abbrev nm__wall : List Str := ["k"]
theorem sc__wall : FnScope nm__wall ["k"] (defScope s__wall) := ⟨rfl, rfl, rfl, by decide +kernel, rfl, by decide +kernel, by decide +kernel⟩
theorem st__wall (v0 : V) : start nm__wall [v0] = [some v0] := rfl
abbrev s_inserted : Stmt := topS 3
abbrev nm_inserted : List Str := ["replica", "deed", "result", "behind", "index", "character", "mark"]
theorem sc_inserted : FnScope nm_inserted ["replica", "deed"] (defScope s_inserted) := ⟨rfl, rfl, rfl, by decide +kernel, rfl, by decide +kernel, by decide +kernel⟩
theorem st_inserted (v0 v1 : V) : start nm_inserted [v0, v1] = [some v0, some v1, none, none, none, none, none] := rfl
abbrev s_Deeds___init__ : Stmt := inClass (topS 4) 0
abbrev nm_Deeds___init__ : List Str := ["self", "_"]
theorem sc_Deeds___init__ : FnScope nm_Deeds___init__ ["self"] (defScope s_Deeds___init__) := ⟨rfl, rfl, rfl, by decide +kernel, rfl, by decide +kernel, by decide +kernel⟩
theorem st_Deeds___init__ (v0 : V) : start nm_Deeds___init__ [v0] = [some v0, none] := rfl
abbrev s_Deeds_counts : Stmt := inClass (topS 4) 1
abbrev nm_Deeds_counts : List Str := ["self", "row"]
theorem sc_Deeds_counts : FnScope nm_Deeds_counts ["self"] (defScope s_Deeds_counts) := ⟨rfl, rfl, rfl, by decide +kernel, rfl, by decide +kernel, by decide +kernel⟩
theorem st_Deeds_counts (v0 : V) : start nm_Deeds_counts [v0] = [some v0, none] := rfl
abbrev s_Deeds_add : Stmt := inClass (topS 4) 2
abbrev nm_Deeds_add : List Str := ["self", "replica", "deed"]
theorem sc_Deeds_add : FnScope nm_Deeds_add ["self", "replica", "deed"] (defScope s_Deeds_add) := ⟨rfl, rfl, rfl, by decide +kernel, rfl, by decide +kernel, by decide +kernel⟩
theorem st_Deeds_add (v0 v1 v2 : V) : start nm_Deeds_add [v0, v1, v2] = [some v0, some v1, some v2] := rfl
abbrev s_Deeds_copy : Stmt := inClass (topS 4) 3
abbrev nm_Deeds_copy : List Str := ["self", "result", "row"]
theorem sc_Deeds_copy : FnScope nm_Deeds_copy ["self"] (defScope s_Deeds_copy) := ⟨rfl, rfl, rfl, by decide +kernel, rfl, by decide +kernel, by decide +kernel⟩
theorem st_Deeds_copy (v0 : V) : start nm_Deeds_copy [v0] = [some v0, none, none] := rfl
abbrev s_Deeds_forces : Stmt := inClass (topS 4) 4
abbrev nm_Deeds_forces : List Str := ["self", "replica", "row", "taken", "result", "place", "in_force"]
theorem sc_Deeds_forces : FnScope nm_Deeds_forces ["self", "replica"] (defScope s_Deeds_forces) := ⟨rfl, rfl, rfl, by decide +kernel, rfl, by decide +kernel, by decide +kernel⟩
theorem st_Deeds_forces (v0 v1 : V) : start nm_Deeds_forces [v0, v1] = [some v0, some v1, none, none, none, none, none] := rfl
abbrev s_Deeds_in_force : Stmt := inClass (topS 4) 5
abbrev nm_Deeds_in_force : List Str := ["self", "replica", "place"]
theorem sc_Deeds_in_force : FnScope nm_Deeds_in_force ["self", "replica", "place"] (defScope s_Deeds_in_force) := ⟨rfl, rfl, rfl, by decide +kernel, rfl, by decide +kernel, by decide +kernel⟩
theorem st_Deeds_in_force (v0 v1 v2 : V) : start nm_Deeds_in_force [v0, v1, v2] = [some v0, some v1, some v2] := rfl
abbrev s_Deeds_changes : Stmt := inClass (topS 4) 6
abbrev nm_Deeds_changes : List Str := ["self", "module", "result", "replica", "deed", "in_force"]
theorem sc_Deeds_changes : FnScope nm_Deeds_changes ["self", "module"] (defScope s_Deeds_changes) := ⟨rfl, rfl, rfl, by decide +kernel, rfl, by decide +kernel, by decide +kernel⟩
theorem st_Deeds_changes (v0 v1 : V) : start nm_Deeds_changes [v0, v1] = [some v0, some v1, none, none, none, none] := rfl
abbrev s_Deeds_modules : Stmt := inClass (topS 4) 7
abbrev nm_Deeds_modules : List Str := ["self"]
theorem sc_Deeds_modules : FnScope nm_Deeds_modules ["self"] (defScope s_Deeds_modules) := ⟨rfl, rfl, rfl, by decide +kernel, rfl, by decide +kernel, by decide +kernel⟩
theorem st_Deeds_modules (v0 : V) : start nm_Deeds_modules [v0] = [some v0] := rfl
abbrev s_Deeds_row : Stmt := inClass (topS 4) 8
abbrev nm_Deeds_row : List Str := ["self", "module", "removed", "found", "replica", "deed", "in_force", "mark", "behind", "char", "places", "seen", "index"]
theorem sc_Deeds_row : FnScope nm_Deeds_row ["self", "module"] (defScope s_Deeds_row) := ⟨rfl, rfl, rfl, by decide +kernel, rfl, by decide +kernel, by decide +kernel⟩
theorem st_Deeds_row (v0 v1 : V) : start nm_Deeds_row [v0, v1] = [some v0, some v1, none, none, none, none, none, none, none, none, none, none, none] := rfl
abbrev s_Deeds_text : Stmt := inClass (topS 4) 9
abbrev nm_Deeds_text : List Str := ["self", "module", "_", "char", "seen"]
theorem sc_Deeds_text : FnScope nm_Deeds_text ["self", "module"] (defScope s_Deeds_text) := ⟨rfl, rfl, rfl, by decide +kernel, rfl, by decide +kernel, by decide +kernel⟩
theorem st_Deeds_text (v0 v1 : V) : start nm_Deeds_text [v0, v1] = [some v0, some v1, none, none, none] := rfl
abbrev s_Deeds_last_number : Stmt := inClass (topS 4) 10
abbrev nm_Deeds_last_number : List Str := ["self"]
theorem sc_Deeds_last_number : FnScope nm_Deeds_last_number ["self"] (defScope s_Deeds_last_number) := ⟨rfl, rfl, rfl, by decide +kernel, rfl, by decide +kernel, by decide +kernel⟩
theorem st_Deeds_last_number (v0 : V) : start nm_Deeds_last_number [v0] = [some v0] := rfl
abbrev s_Deeds_fits : Stmt := inClass (topS 4) 11
abbrev nm_Deeds_fits : List Str := ["self", "replica", "deed"]
theorem sc_Deeds_fits : FnScope nm_Deeds_fits ["self", "replica", "deed"] (defScope s_Deeds_fits) := ⟨rfl, rfl, rfl, by decide +kernel, rfl, by decide +kernel, by decide +kernel⟩
theorem st_Deeds_fits (v0 v1 v2 : V) : start nm_Deeds_fits [v0, v1, v2] = [some v0, some v1, some v2] := rfl
abbrev s_Reader___init__ : Stmt := inClass (topS 12) 0
abbrev nm_Reader___init__ : List Str := ["self", "data"]
theorem sc_Reader___init__ : FnScope nm_Reader___init__ ["self", "data"] (defScope s_Reader___init__) := ⟨rfl, rfl, rfl, by decide +kernel, rfl, by decide +kernel, by decide +kernel⟩
theorem st_Reader___init__ (v0 v1 : V) : start nm_Reader___init__ [v0, v1] = [some v0, some v1] := rfl
abbrev s_Reader_read_byte : Stmt := inClass (topS 12) 1
abbrev nm_Reader_read_byte : List Str := ["self"]
theorem sc_Reader_read_byte : FnScope nm_Reader_read_byte ["self"] (defScope s_Reader_read_byte) := ⟨rfl, rfl, rfl, by decide +kernel, rfl, by decide +kernel, by decide +kernel⟩
theorem st_Reader_read_byte (v0 : V) : start nm_Reader_read_byte [v0] = [some v0] := rfl
abbrev s_Reader_read_choice : Stmt := inClass (topS 12) 2
abbrev nm_Reader_read_choice : List Str := ["self", "count", "byte"]
theorem sc_Reader_read_choice : FnScope nm_Reader_read_choice ["self", "count"] (defScope s_Reader_read_choice) := ⟨rfl, rfl, rfl, by decide +kernel, rfl, by decide +kernel, by decide +kernel⟩
theorem st_Reader_read_choice (v0 v1 : V) : start nm_Reader_read_choice [v0, v1] = [some v0, some v1, none] := rfl
abbrev s_Reader_end : Stmt := inClass (topS 12) 3
abbrev nm_Reader_end : List Str := ["self"]
theorem sc_Reader_end : FnScope nm_Reader_end ["self"] (defScope s_Reader_end) := ⟨rfl, rfl, rfl, by decide +kernel, rfl, by decide +kernel, by decide +kernel⟩
theorem st_Reader_end (v0 : V) : start nm_Reader_end [v0] = [some v0] := rfl
abbrev s_Reader_read_number : Stmt := inClass (topS 12) 4
abbrev nm_Reader_read_number : List Str := ["self", "total", "factor", "index", "byte"]
theorem sc_Reader_read_number : FnScope nm_Reader_read_number ["self"] (defScope s_Reader_read_number) := ⟨rfl, rfl, rfl, by decide +kernel, rfl, by decide +kernel, by decide +kernel⟩
theorem st_Reader_read_number (v0 : V) : start nm_Reader_read_number [v0] = [some v0, none, none, none, none] := rfl
abbrev s_Reader_read_count : Stmt := inClass (topS 12) 5
abbrev nm_Reader_read_count : List Str := ["self", "count"]
theorem sc_Reader_read_count : FnScope nm_Reader_read_count ["self"] (defScope s_Reader_read_count) := ⟨rfl, rfl, rfl, by decide +kernel, rfl, by decide +kernel, by decide +kernel⟩
theorem st_Reader_read_count (v0 : V) : start nm_Reader_read_count [v0] = [some v0, none] := rfl
abbrev s_Reader_read_character : Stmt := inClass (topS 12) 6
abbrev nm_Reader_read_character : List Str := ["self", "code"]
theorem sc_Reader_read_character : FnScope nm_Reader_read_character ["self"] (defScope s_Reader_read_character) := ⟨rfl, rfl, rfl, by decide +kernel, rfl, by decide +kernel, by decide +kernel⟩
theorem st_Reader_read_character (v0 : V) : start nm_Reader_read_character [v0] = [some v0, none] := rfl
abbrev s_Reader_read_string : Stmt := inClass (topS 12) 7
abbrev nm_Reader_read_string : List Str := ["self", "_"]
theorem sc_Reader_read_string : FnScope nm_Reader_read_string ["self"] (defScope s_Reader_read_string) := ⟨rfl, rfl, rfl, by decide +kernel, rfl, by decide +kernel, by decide +kernel⟩
theorem st_Reader_read_string (v0 : V) : start nm_Reader_read_string [v0] = [some v0, none] := rfl
abbrev s_Reader_read_mark : Stmt := inClass (topS 12) 8
abbrev nm_Reader_read_mark : List Str := ["self", "number"]
theorem sc_Reader_read_mark : FnScope nm_Reader_read_mark ["self"] (defScope s_Reader_read_mark) := ⟨rfl, rfl, rfl, by decide +kernel, rfl, by decide +kernel, by decide +kernel⟩
theorem st_Reader_read_mark (v0 : V) : start nm_Reader_read_mark [v0] = [some v0, none] := rfl
abbrev s_Reader_read_deed : Stmt := inClass (topS 12) 9
abbrev nm_Reader_read_deed : List Str := ["self", "module", "removed", "_", "behind", "number"]
theorem sc_Reader_read_deed : FnScope nm_Reader_read_deed ["self"] (defScope s_Reader_read_deed) := ⟨rfl, rfl, rfl, by decide +kernel, rfl, by decide +kernel, by decide +kernel⟩
theorem st_Reader_read_deed (v0 : V) : start nm_Reader_read_deed [v0] = [some v0, none, none, none, none, none] := rfl
abbrev s_Reader_read_deeds : Stmt := inClass (topS 12) 10
abbrev nm_Reader_read_deeds : List Str := ["self", "_"]
theorem sc_Reader_read_deeds : FnScope nm_Reader_read_deeds ["self"] (defScope s_Reader_read_deeds) := ⟨rfl, rfl, rfl, by decide +kernel, rfl, by decide +kernel, by decide +kernel⟩
theorem st_Reader_read_deeds (v0 : V) : start nm_Reader_read_deeds [v0] = [some v0, none] := rfl
abbrev s_Reader_read_triple : Stmt := inClass (topS 12) 11
abbrev nm_Reader_read_triple : List Str := ["self", "replica", "place"]
theorem sc_Reader_read_triple : FnScope nm_Reader_read_triple ["self"] (defScope s_Reader_read_triple) := ⟨rfl, rfl, rfl, by decide +kernel, rfl, by decide +kernel, by decide +kernel⟩
theorem st_Reader_read_triple (v0 : V) : start nm_Reader_read_triple [v0] = [some v0, none, none] := rfl
abbrev s_Reader_read_triples : Stmt := inClass (topS 12) 12
abbrev nm_Reader_read_triples : List Str := ["self", "_"]
theorem sc_Reader_read_triples : FnScope nm_Reader_read_triples ["self"] (defScope s_Reader_read_triples) := ⟨rfl, rfl, rfl, by decide +kernel, rfl, by decide +kernel, by decide +kernel⟩
theorem st_Reader_read_triples (v0 : V) : start nm_Reader_read_triples [v0] = [some v0, none] := rfl
abbrev s_Reader_read_packet : Stmt := inClass (topS 12) 13
abbrev nm_Reader_read_packet : List Str := ["self"]
theorem sc_Reader_read_packet : FnScope nm_Reader_read_packet ["self"] (defScope s_Reader_read_packet) := ⟨rfl, rfl, rfl, by decide +kernel, rfl, by decide +kernel, by decide +kernel⟩
theorem st_Reader_read_packet (v0 : V) : start nm_Reader_read_packet [v0] = [some v0] := rfl
abbrev s_write_number : Stmt := topS 14
abbrev nm_write_number : List Str := ["number", "data"]
theorem sc_write_number : FnScope nm_write_number ["number"] (defScope s_write_number) := ⟨rfl, rfl, rfl, by decide +kernel, rfl, by decide +kernel, by decide +kernel⟩
theorem st_write_number (v0 : V) : start nm_write_number [v0] = [some v0, none] := rfl
abbrev s_write_list : Stmt := topS 15
abbrev nm_write_list : List Str := ["items", "data", "item"]
theorem sc_write_list : FnScope nm_write_list ["items"] (defScope s_write_list) := ⟨rfl, rfl, rfl, by decide +kernel, rfl, by decide +kernel, by decide +kernel⟩
theorem st_write_list (v0 : V) : start nm_write_list [v0] = [some v0, none, none] := rfl
abbrev s_write_string : Stmt := topS 16
abbrev nm_write_string : List Str := ["text", "character"]
theorem sc_write_string : FnScope nm_write_string ["text"] (defScope s_write_string) := ⟨rfl, rfl, rfl, by decide +kernel, rfl, by decide +kernel, by decide +kernel⟩
theorem st_write_string (v0 : V) : start nm_write_string [v0] = [some v0, none] := rfl
abbrev s_write_mark : Stmt := topS 17
abbrev nm_write_mark : List Str := ["mark"]
theorem sc_write_mark : FnScope nm_write_mark ["mark"] (defScope s_write_mark) := ⟨rfl, rfl, rfl, by decide +kernel, rfl, by decide +kernel, by decide +kernel⟩
theorem st_write_mark (v0 : V) : start nm_write_mark [v0] = [some v0] := rfl
abbrev s_write_deed : Stmt := topS 18
abbrev nm_write_deed : List Str := ["deed", "_", "module", "removed", "behind", "number", "text", "data", "mark"]
theorem sc_write_deed : FnScope nm_write_deed ["deed"] (defScope s_write_deed) := ⟨rfl, rfl, rfl, by decide +kernel, rfl, by decide +kernel, by decide +kernel⟩
theorem st_write_deed (v0 : V) : start nm_write_deed [v0] = [some v0, none, none, none, none, none, none, none, none] := rfl
abbrev s_write_triples : Stmt := topS 19
abbrev nm_write_triples : List Str := ["triples", "written", "replica", "place", "deed"]
theorem sc_write_triples : FnScope nm_write_triples ["triples"] (defScope s_write_triples) := ⟨rfl, rfl, rfl, by decide +kernel, rfl, by decide +kernel, by decide +kernel⟩
theorem st_write_triples (v0 : V) : start nm_write_triples [v0] = [some v0, none, none, none, none] := rfl
abbrev s_Base___init__ : Stmt := inClass (topS 22) 0
abbrev nm_Base___init__ : List Str := ["self"]
theorem sc_Base___init__ : FnScope nm_Base___init__ ["self"] (defScope s_Base___init__) := ⟨rfl, rfl, rfl, by decide +kernel, rfl, by decide +kernel, by decide +kernel⟩
theorem st_Base___init__ (v0 : V) : start nm_Base___init__ [v0] = [some v0] := rfl
abbrev s_Base_copy : Stmt := inClass (topS 22) 1
abbrev nm_Base_copy : List Str := ["self", "result"]
theorem sc_Base_copy : FnScope nm_Base_copy ["self"] (defScope s_Base_copy) := ⟨rfl, rfl, rfl, by decide +kernel, rfl, by decide +kernel, by decide +kernel⟩
theorem st_Base_copy (v0 : V) : start nm_Base_copy [v0] = [some v0, none] := rfl
abbrev s_Base_data : Stmt := inClass (topS 22) 2
abbrev nm_Base_data : List Str := ["self", "row"]
theorem sc_Base_data : FnScope nm_Base_data ["self"] (defScope s_Base_data) := ⟨rfl, rfl, rfl, by decide +kernel, rfl, by decide +kernel, by decide +kernel⟩
theorem st_Base_data (v0 : V) : start nm_Base_data [v0] = [some v0, none] := rfl
abbrev s_Base_grown : Stmt := inClass (topS 22) 3
abbrev nm_Base_grown : List Str := ["self", "triples", "result", "replica", "_", "deed"]
theorem sc_Base_grown : FnScope nm_Base_grown ["self", "triples"] (defScope s_Base_grown) := ⟨rfl, rfl, rfl, by decide +kernel, rfl, by decide +kernel, by decide +kernel⟩
theorem st_Base_grown (v0 v1 : V) : start nm_Base_grown [v0, v1] = [some v0, some v1, none, none, none, none] := rfl
abbrev s_checksum : Stmt := topS 23
abbrev nm_checksum : List Str := ["data", "total", "byte"]
theorem sc_checksum : FnScope nm_checksum ["data"] (defScope s_checksum) := ⟨rfl, rfl, rfl, by decide +kernel, rfl, by decide +kernel, by decide +kernel⟩
theorem st_checksum (v0 : V) : start nm_checksum [v0] = [some v0, none, none] := rfl
abbrev s_write_record : Stmt := topS 24
abbrev nm_write_record : List Str := ["data", "total", "tail"]
theorem sc_write_record : FnScope nm_write_record ["data"] (defScope s_write_record) := ⟨rfl, rfl, rfl, by decide +kernel, rfl, by decide +kernel, by decide +kernel⟩
theorem st_write_record (v0 : V) : start nm_write_record [v0] = [some v0, none, none] := rfl
abbrev s__read_size : Stmt := topS 25
abbrev nm__read_size : List Str := ["data", "start", "reader", "size"]
theorem sc__read_size : FnScope nm__read_size ["data", "start"] (defScope s__read_size) := ⟨rfl, rfl, rfl, by decide +kernel, rfl, by decide +kernel, by decide +kernel⟩
theorem st__read_size (v0 v1 : V) : start nm__read_size [v0, v1] = [some v0, some v1, none, none] := rfl
abbrev s_read_records : Stmt := topS 26
abbrev nm_read_records : List Str := ["data", "records", "start", "found", "begin", "size", "record", "end"]
theorem sc_read_records : FnScope nm_read_records ["data"] (defScope s_read_records) := ⟨rfl, rfl, rfl, by decide +kernel, rfl, by decide +kernel, by decide +kernel⟩
theorem st_read_records (v0 : V) : start nm_read_records [v0] = [some v0, none, none, none, none, none, none, none] := rfl
abbrev s__write_base : Stmt := topS 27
abbrev nm__write_base : List Str := ["base", "data", "row", "deed"]
theorem sc__write_base : FnScope nm__write_base ["base"] (defScope s__write_base) := ⟨rfl, rfl, rfl, by decide +kernel, rfl, by decide +kernel, by decide +kernel⟩
theorem st__write_base (v0 : V) : start nm__write_base [v0] = [some v0, none, none, none] := rfl
abbrev s_log_start : Stmt := topS 28
abbrev nm_log_start : List Str := ["turn", "base"]
theorem sc_log_start : FnScope nm_log_start ["turn", "base"] (defScope s_log_start) := ⟨rfl, rfl, rfl, by decide +kernel, rfl, by decide +kernel, by decide +kernel⟩
theorem st_log_start (v0 v1 : V) : start nm_log_start [v0, v1] = [some v0, some v1] := rfl
abbrev s_write_note : Stmt := topS 29
abbrev nm_write_note : List Str := ["triples"]
theorem sc_write_note : FnScope nm_write_note ["triples"] (defScope s_write_note) := ⟨rfl, rfl, rfl, by decide +kernel, rfl, by decide +kernel, by decide +kernel⟩
theorem st_write_note (v0 : V) : start nm_write_note [v0] = [some v0] := rfl
abbrev s__read_turn : Stmt := topS 30
abbrev nm__read_turn : List Str := ["record", "reader", "turn"]
theorem sc__read_turn : FnScope nm__read_turn ["record"] (defScope s__read_turn) := ⟨rfl, rfl, rfl, by decide +kernel, rfl, by decide +kernel, by decide +kernel⟩
theorem st__read_turn (v0 : V) : start nm__read_turn [v0] = [some v0, none, none] := rfl
abbrev s__read_base : Stmt := topS 31
abbrev nm__read_base : List Str := ["record", "reader", "base", "_"]
theorem sc__read_base : FnScope nm__read_base ["record"] (defScope s__read_base) := ⟨rfl, rfl, rfl, by decide +kernel, rfl, by decide +kernel, by decide +kernel⟩
theorem st__read_base (v0 : V) : start nm__read_base [v0] = [some v0, none, none, none] := rfl
abbrev s__after_note : Stmt := topS 32
abbrev nm__after_note : List Str := ["base", "record", "reader", "triples", "counts", "replica", "place", "_"]
theorem sc__after_note : FnScope nm__after_note ["base", "record"] (defScope s__after_note) := ⟨rfl, rfl, rfl, by decide +kernel, rfl, by decide +kernel, by decide +kernel⟩
theorem st__after_note (v0 v1 : V) : start nm__after_note [v0, v1] = [some v0, some v1, none, none, none, none, none, none] := rfl
abbrev s_read_log : Stmt := topS 33
abbrev nm_read_log : List Str := ["data", "records", "turn", "base", "size", "record"]
theorem sc_read_log : FnScope nm_read_log ["data"] (defScope s_read_log) := ⟨rfl, rfl, rfl, by decide +kernel, rfl, by decide +kernel, by decide +kernel⟩
theorem st_read_log (v0 : V) : start nm_read_log [v0] = [some v0, none, none, none, none, none] := rfl
abbrev s_counting_file : Stmt := topS 34
abbrev nm_counting_file : List Str := ["first", "second", "one", "other"]
theorem sc_counting_file : FnScope nm_counting_file ["first", "second"] (defScope s_counting_file) := ⟨rfl, rfl, rfl, by decide +kernel, rfl, by decide +kernel, by decide +kernel⟩
theorem st_counting_file (v0 v1 : V) : start nm_counting_file [v0, v1] = [some v0, some v1, none, none] := rfl
abbrev s_commits_of : Stmt := topS 35
abbrev nm_commits_of : List Str := ["data", "records", "base", "found", "record"]
theorem sc_commits_of : FnScope nm_commits_of ["data"] (defScope s_commits_of) := ⟨rfl, rfl, rfl, by decide +kernel, rfl, by decide +kernel, by decide +kernel⟩
theorem st_commits_of (v0 : V) : start nm_commits_of [v0] = [some v0, none, none, none, none] := rfl
abbrev s__law_next : Stmt := topS 37
abbrev nm__law_next : List Str := ["state", "limit", "cell", "value"]
theorem sc__law_next : FnScope nm__law_next ["state", "limit"] (defScope s__law_next) := ⟨rfl, rfl, rfl, by decide +kernel, rfl, by decide +kernel, by decide +kernel⟩
theorem st__law_next (v0 v1 : V) : start nm__law_next [v0, v1] = [some v0, some v1, none, none] := rfl
abbrev s__law_same : Stmt := topS 38
abbrev nm__law_same : List Str := ["actual", "expected", "k"]
theorem sc__law_same : FnScope nm__law_same ["actual", "expected"] (defScope s__law_same) := ⟨rfl, rfl, rfl, by decide +kernel, rfl, by decide +kernel, by decide +kernel⟩
theorem st__law_same (v0 v1 : V) : start nm__law_same [v0, v1] = [some v0, some v1, none] := rfl
abbrev s__law_read_number : Stmt := topS 39
abbrev nm__law_read_number : List Str := ["data", "at", "total", "factor", "k"]
theorem sc__law_read_number : FnScope nm__law_read_number ["data", "at"] (defScope s__law_read_number) := ⟨rfl, rfl, rfl, by decide +kernel, rfl, by decide +kernel, by decide +kernel⟩
theorem st__law_read_number (v0 v1 : V) : start nm__law_read_number [v0, v1] = [some v0, some v1, none, none, none] := rfl
abbrev s__law_sign : Stmt := topS 40
abbrev nm__law_sign : List Str := ["code", "first", "rest"]
theorem sc__law_sign : FnScope nm__law_sign ["code"] (defScope s__law_sign) := ⟨rfl, rfl, rfl, by decide +kernel, rfl, by decide +kernel, by decide +kernel⟩
theorem st__law_sign (v0 : V) : start nm__law_sign [v0] = [some v0, none, none] := rfl
abbrev s__law_read_text : Stmt := topS 41
abbrev nm__law_read_text : List Str := ["data", "at", "found", "count", "text", "k"]
theorem sc__law_read_text : FnScope nm__law_read_text ["data", "at"] (defScope s__law_read_text) := ⟨rfl, rfl, rfl, by decide +kernel, rfl, by decide +kernel, by decide +kernel⟩
theorem st__law_read_text (v0 v1 : V) : start nm__law_read_text [v0, v1] = [some v0, some v1, none, none, none, none] := rfl
abbrev s__law_read_mark : Stmt := topS 42
abbrev nm__law_read_mark : List Str := ["data", "at", "first", "second"]
theorem sc__law_read_mark : FnScope nm__law_read_mark ["data", "at"] (defScope s__law_read_mark) := ⟨rfl, rfl, rfl, by decide +kernel, rfl, by decide +kernel, by decide +kernel⟩
theorem st__law_read_mark (v0 v1 : V) : start nm__law_read_mark [v0, v1] = [some v0, some v1, none, none] := rfl
abbrev s__law_read_deed : Stmt := topS 43
abbrev nm__law_read_deed : List Str := ["data", "at", "found", "module", "count", "marks", "k", "behind", "number", "text"]
theorem sc__law_read_deed : FnScope nm__law_read_deed ["data", "at"] (defScope s__law_read_deed) := ⟨rfl, rfl, rfl, by decide +kernel, rfl, by decide +kernel, by decide +kernel⟩
theorem st__law_read_deed (v0 v1 : V) : start nm__law_read_deed [v0, v1] = [some v0, some v1, none, none, none, none, none, none, none, none] := rfl
abbrev s__law_read_triples : Stmt := topS 44
abbrev nm__law_read_triples : List Str := ["data", "at", "count", "triples", "k", "pair", "deed"]
theorem sc__law_read_triples : FnScope nm__law_read_triples ["data", "at"] (defScope s__law_read_triples) := ⟨rfl, rfl, rfl, by decide +kernel, rfl, by decide +kernel, by decide +kernel⟩
theorem st__law_read_triples (v0 v1 : V) : start nm__law_read_triples [v0, v1] = [some v0, some v1, none, none, none, none, none] := rfl
abbrev s__law_sum : Stmt := topS 45
abbrev nm__law_sum : List Str := ["data", "total", "byte"]
theorem sc__law_sum : FnScope nm__law_sum ["data"] (defScope s__law_sum) := ⟨rfl, rfl, rfl, by decide +kernel, rfl, by decide +kernel, by decide +kernel⟩
theorem st__law_sum (v0 : V) : start nm__law_sum [v0] = [some v0, none, none] := rfl
abbrev s__law_record : Stmt := topS 46
abbrev nm__law_record : List Str := ["data", "total"]
theorem sc__law_record : FnScope nm__law_record ["data"] (defScope s__law_record) := ⟨rfl, rfl, rfl, by decide +kernel, rfl, by decide +kernel, by decide +kernel⟩
theorem st__law_record (v0 : V) : start nm__law_record [v0] = [some v0, none] := rfl
abbrev s__law_records : Stmt := topS 47
abbrev nm__law_records : List Str := ["data", "found", "at", "size", "end", "record"]
theorem sc__law_records : FnScope nm__law_records ["data"] (defScope s__law_records) := ⟨rfl, rfl, rfl, by decide +kernel, rfl, by decide +kernel, by decide +kernel⟩
theorem st__law_records (v0 : V) : start nm__law_records [v0] = [some v0, none, none, none, none, none] := rfl
abbrev s__law_base : Stmt := topS 48
abbrev nm__law_base : List Str := ["record", "commits", "at", "rows", "replica", "count", "row", "k", "deed"]
theorem sc__law_base : FnScope nm__law_base ["record"] (defScope s__law_base) := ⟨rfl, rfl, rfl, by decide +kernel, rfl, by decide +kernel, by decide +kernel⟩
theorem st__law_base (v0 : V) : start nm__law_base [v0] = [some v0, none, none, none, none, none, none, none, none] := rfl
abbrev s__law_tells : Stmt := topS 49
abbrev nm__law_tells : List Str := ["data", "records", "turn", "base", "states", "size", "record", "end", "triples", "commits", "rows", "row", "good", "replica", "place", "deed"]
theorem sc__law_tells : FnScope nm__law_tells ["data"] (defScope s__law_tells) := ⟨rfl, rfl, rfl, by decide +kernel, rfl, by decide +kernel, by decide +kernel⟩
theorem st__law_tells (v0 : V) : start nm__law_tells [v0] = [some v0, none, none, none, none, none, none, none, none, none, none, none, none, none, none, none] := rfl
abbrev s__law_deed : Stmt := topS 50
abbrev nm__law_deed : List Str := ["state", "count"]
theorem sc__law_deed : FnScope nm__law_deed ["state", "count"] (defScope s__law_deed) := ⟨rfl, rfl, rfl, by decide +kernel, rfl, by decide +kernel, by decide +kernel⟩
theorem st__law_deed (v0 v1 : V) : start nm__law_deed [v0, v1] = [some v0, some v1] := rfl
abbrev s__law_group : Stmt := topS 51
abbrev nm__law_group : List Str := ["state", "counts", "group", "k", "replica"]
theorem sc__law_group : FnScope nm__law_group ["state", "counts"] (defScope s__law_group) := ⟨rfl, rfl, rfl, by decide +kernel, rfl, by decide +kernel, by decide +kernel⟩
theorem st__law_group (v0 v1 : V) : start nm__law_group [v0, v1] = [some v0, some v1, none, none, none] := rfl
abbrev s__law_strange : Stmt := topS 52
abbrev nm__law_strange : List Str := ["state", "counts", "replica", "deed", "notes", "records", "note"]
theorem sc__law_strange : FnScope nm__law_strange ["state", "counts"] (defScope s__law_strange) := ⟨rfl, rfl, rfl, by decide +kernel, rfl, by decide +kernel, by decide +kernel⟩
theorem st__law_strange (v0 v1 : V) : start nm__law_strange [v0, v1] = [some v0, some v1, none, none, none, none, none] := rfl
abbrev s__law_file : Stmt := topS 53
abbrev nm__law_file : List Str := ["state", "counts", "groups", "k", "done", "turn", "bases", "rows", "replica", "group", "place", "deed", "data", "row", "note", "pick"]
theorem sc__law_file : FnScope nm__law_file ["state"] (defScope s__law_file) := ⟨rfl, rfl, rfl, by decide +kernel, rfl, by decide +kernel, by decide +kernel⟩
theorem st__law_file (v0 : V) : start nm__law_file [v0] = [some v0, none, none, none, none, none, none, none, none, none, none, none, none, none, none, none] := rfl
abbrev s__law_is_told : Stmt := topS 54
abbrev nm__law_is_told : List Str := ["data", "due", "told", "records", "record", "end", "turn", "states", "size", "row", "commits", "rows"]
theorem sc__law_is_told : FnScope nm__law_is_told ["data"] (defScope s__law_is_told) := ⟨rfl, rfl, rfl, by decide +kernel, rfl, by decide +kernel, by decide +kernel⟩
theorem st__law_is_told (v0 : V) : start nm__law_is_told [v0] = [some v0, none, none, none, none, none, none, none, none, none, none, none] := rfl
abbrev s_law : Stmt := topS 55
abbrev nm_law : List Str := ["script", "state", "files", "k", "data", "some", "one", "other", "due"]
theorem sc_law : FnScope nm_law ["script"] (defScope s_law) := ⟨rfl, rfl, rfl, by decide +kernel, rfl, by decide +kernel, by decide +kernel⟩
theorem st_law (v0 : V) : start nm_law [v0] = [some v0, none, none, none, none, none, none, none, none] := rfl
structure Adr where
  f__wall : Addr
  d__wall : FuncData
  f_inserted : Addr
  d_inserted : FuncData
  f_Deeds___init__ : Addr
  d_Deeds___init__ : FuncData
  f_Deeds_counts : Addr
  d_Deeds_counts : FuncData
  f_Deeds_add : Addr
  d_Deeds_add : FuncData
  f_Deeds_copy : Addr
  d_Deeds_copy : FuncData
  f_Deeds_forces : Addr
  d_Deeds_forces : FuncData
  f_Deeds_in_force : Addr
  d_Deeds_in_force : FuncData
  f_Deeds_changes : Addr
  d_Deeds_changes : FuncData
  f_Deeds_modules : Addr
  d_Deeds_modules : FuncData
  f_Deeds_row : Addr
  d_Deeds_row : FuncData
  f_Deeds_text : Addr
  d_Deeds_text : FuncData
  f_Deeds_last_number : Addr
  d_Deeds_last_number : FuncData
  f_Deeds_fits : Addr
  d_Deeds_fits : FuncData
  f_Reader___init__ : Addr
  d_Reader___init__ : FuncData
  f_Reader_read_byte : Addr
  d_Reader_read_byte : FuncData
  f_Reader_read_choice : Addr
  d_Reader_read_choice : FuncData
  f_Reader_end : Addr
  d_Reader_end : FuncData
  f_Reader_read_number : Addr
  d_Reader_read_number : FuncData
  f_Reader_read_count : Addr
  d_Reader_read_count : FuncData
  f_Reader_read_character : Addr
  d_Reader_read_character : FuncData
  f_Reader_read_string : Addr
  d_Reader_read_string : FuncData
  f_Reader_read_mark : Addr
  d_Reader_read_mark : FuncData
  f_Reader_read_deed : Addr
  d_Reader_read_deed : FuncData
  f_Reader_read_deeds : Addr
  d_Reader_read_deeds : FuncData
  f_Reader_read_triple : Addr
  d_Reader_read_triple : FuncData
  f_Reader_read_triples : Addr
  d_Reader_read_triples : FuncData
  f_Reader_read_packet : Addr
  d_Reader_read_packet : FuncData
  f_write_number : Addr
  d_write_number : FuncData
  f_write_list : Addr
  d_write_list : FuncData
  f_write_string : Addr
  d_write_string : FuncData
  f_write_mark : Addr
  d_write_mark : FuncData
  f_write_deed : Addr
  d_write_deed : FuncData
  f_write_triples : Addr
  d_write_triples : FuncData
  f_Base___init__ : Addr
  d_Base___init__ : FuncData
  f_Base_copy : Addr
  d_Base_copy : FuncData
  f_Base_data : Addr
  d_Base_data : FuncData
  f_Base_grown : Addr
  d_Base_grown : FuncData
  f_checksum : Addr
  d_checksum : FuncData
  f_write_record : Addr
  d_write_record : FuncData
  f__read_size : Addr
  d__read_size : FuncData
  f_read_records : Addr
  d_read_records : FuncData
  f__write_base : Addr
  d__write_base : FuncData
  f_log_start : Addr
  d_log_start : FuncData
  f_write_note : Addr
  d_write_note : FuncData
  f__read_turn : Addr
  d__read_turn : FuncData
  f__read_base : Addr
  d__read_base : FuncData
  f__after_note : Addr
  d__after_note : FuncData
  f_read_log : Addr
  d_read_log : FuncData
  f_counting_file : Addr
  d_counting_file : FuncData
  f_commits_of : Addr
  d_commits_of : FuncData
  f__law_next : Addr
  d__law_next : FuncData
  f__law_same : Addr
  d__law_same : FuncData
  f__law_read_number : Addr
  d__law_read_number : FuncData
  f__law_sign : Addr
  d__law_sign : FuncData
  f__law_read_text : Addr
  d__law_read_text : FuncData
  f__law_read_mark : Addr
  d__law_read_mark : FuncData
  f__law_read_deed : Addr
  d__law_read_deed : FuncData
  f__law_read_triples : Addr
  d__law_read_triples : FuncData
  f__law_sum : Addr
  d__law_sum : FuncData
  f__law_record : Addr
  d__law_record : FuncData
  f__law_records : Addr
  d__law_records : FuncData
  f__law_base : Addr
  d__law_base : FuncData
  f__law_tells : Addr
  d__law_tells : FuncData
  f__law_deed : Addr
  d__law_deed : FuncData
  f__law_group : Addr
  d__law_group : FuncData
  f__law_strange : Addr
  d__law_strange : FuncData
  f__law_file : Addr
  d__law_file : FuncData
  f__law_is_told : Addr
  d__law_is_told : FuncData
  f_law : Addr
  d_law : FuncData
  C_Deeds : Addr
  C_PlanwholeError : Addr
  C_DamagedPacket : Addr
  C_Reader : Addr
  C_Base : Addr
  v_REPLICAS : Value
  v_BEFORE_PERCENT : Value
  v_AFTER_PERCENT : Value
  v_NUMBER_BYTES : Value
  v_CHECKSUM_LIMIT : Value
structure Env (K : PySem.W.Frag) (mg : Str → Option Value) (A : Adr) : Prop where
  F__wall : Fun K "_wall" "_wall" s__wall A.f__wall A.d__wall
  b__wall : Binds K A.d__wall ["k"] []
  m__wall : mg "_wall" = some (.ref A.f__wall)
  k__wall : PySem.W.keepIn K (.ref A.f__wall) = true
  F_inserted : Fun K "inserted" "inserted" s_inserted A.f_inserted A.d_inserted
  b_inserted : Binds K A.d_inserted ["replica", "deed"] []
  m_inserted : mg "inserted" = some (.ref A.f_inserted)
  k_inserted : PySem.W.keepIn K (.ref A.f_inserted) = true
  F_Deeds___init__ : Fun K "__init__" "Deeds.__init__" s_Deeds___init__ A.f_Deeds___init__ A.d_Deeds___init__
  b_Deeds___init__ : Binds K A.d_Deeds___init__ ["self"] []
  h_Deeds___init__ : Meth K A.C_Deeds "__init__" A.f_Deeds___init__
  F_Deeds_counts : Fun K "counts" "Deeds.counts" s_Deeds_counts A.f_Deeds_counts A.d_Deeds_counts
  b_Deeds_counts : Binds K A.d_Deeds_counts ["self"] []
  h_Deeds_counts : Meth K A.C_Deeds "counts" A.f_Deeds_counts
  F_Deeds_add : Fun K "add" "Deeds.add" s_Deeds_add A.f_Deeds_add A.d_Deeds_add
  b_Deeds_add : Binds K A.d_Deeds_add ["self", "replica", "deed"] []
  h_Deeds_add : Meth K A.C_Deeds "add" A.f_Deeds_add
  F_Deeds_copy : Fun K "copy" "Deeds.copy" s_Deeds_copy A.f_Deeds_copy A.d_Deeds_copy
  b_Deeds_copy : Binds K A.d_Deeds_copy ["self"] []
  h_Deeds_copy : Meth K A.C_Deeds "copy" A.f_Deeds_copy
  F_Deeds_forces : Fun K "forces" "Deeds.forces" s_Deeds_forces A.f_Deeds_forces A.d_Deeds_forces
  b_Deeds_forces : Binds K A.d_Deeds_forces ["self", "replica"] []
  h_Deeds_forces : Meth K A.C_Deeds "forces" A.f_Deeds_forces
  F_Deeds_in_force : Fun K "in_force" "Deeds.in_force" s_Deeds_in_force A.f_Deeds_in_force A.d_Deeds_in_force
  b_Deeds_in_force : Binds K A.d_Deeds_in_force ["self", "replica", "place"] []
  h_Deeds_in_force : Meth K A.C_Deeds "in_force" A.f_Deeds_in_force
  F_Deeds_changes : Fun K "changes" "Deeds.changes" s_Deeds_changes A.f_Deeds_changes A.d_Deeds_changes
  b_Deeds_changes : Binds K A.d_Deeds_changes ["self", "module"] []
  h_Deeds_changes : Meth K A.C_Deeds "changes" A.f_Deeds_changes
  F_Deeds_modules : Fun K "modules" "Deeds.modules" s_Deeds_modules A.f_Deeds_modules A.d_Deeds_modules
  b_Deeds_modules : Binds K A.d_Deeds_modules ["self"] []
  h_Deeds_modules : Meth K A.C_Deeds "modules" A.f_Deeds_modules
  F_Deeds_row : Fun K "row" "Deeds.row" s_Deeds_row A.f_Deeds_row A.d_Deeds_row
  b_Deeds_row : Binds K A.d_Deeds_row ["self", "module"] []
  h_Deeds_row : Meth K A.C_Deeds "row" A.f_Deeds_row
  F_Deeds_text : Fun K "text" "Deeds.text" s_Deeds_text A.f_Deeds_text A.d_Deeds_text
  b_Deeds_text : Binds K A.d_Deeds_text ["self", "module"] []
  h_Deeds_text : Meth K A.C_Deeds "text" A.f_Deeds_text
  F_Deeds_last_number : Fun K "last_number" "Deeds.last_number" s_Deeds_last_number A.f_Deeds_last_number A.d_Deeds_last_number
  b_Deeds_last_number : Binds K A.d_Deeds_last_number ["self"] []
  h_Deeds_last_number : Meth K A.C_Deeds "last_number" A.f_Deeds_last_number
  F_Deeds_fits : Fun K "fits" "Deeds.fits" s_Deeds_fits A.f_Deeds_fits A.d_Deeds_fits
  b_Deeds_fits : Binds K A.d_Deeds_fits ["self", "replica", "deed"] []
  h_Deeds_fits : Meth K A.C_Deeds "fits" A.f_Deeds_fits
  F_Reader___init__ : Fun K "__init__" "Reader.__init__" s_Reader___init__ A.f_Reader___init__ A.d_Reader___init__
  b_Reader___init__ : Binds K A.d_Reader___init__ ["self", "data"] []
  h_Reader___init__ : Meth K A.C_Reader "__init__" A.f_Reader___init__
  F_Reader_read_byte : Fun K "read_byte" "Reader.read_byte" s_Reader_read_byte A.f_Reader_read_byte A.d_Reader_read_byte
  b_Reader_read_byte : Binds K A.d_Reader_read_byte ["self"] []
  h_Reader_read_byte : Meth K A.C_Reader "read_byte" A.f_Reader_read_byte
  F_Reader_read_choice : Fun K "read_choice" "Reader.read_choice" s_Reader_read_choice A.f_Reader_read_choice A.d_Reader_read_choice
  b_Reader_read_choice : Binds K A.d_Reader_read_choice ["self", "count"] []
  h_Reader_read_choice : Meth K A.C_Reader "read_choice" A.f_Reader_read_choice
  F_Reader_end : Fun K "end" "Reader.end" s_Reader_end A.f_Reader_end A.d_Reader_end
  b_Reader_end : Binds K A.d_Reader_end ["self"] []
  h_Reader_end : Meth K A.C_Reader "end" A.f_Reader_end
  F_Reader_read_number : Fun K "read_number" "Reader.read_number" s_Reader_read_number A.f_Reader_read_number A.d_Reader_read_number
  b_Reader_read_number : Binds K A.d_Reader_read_number ["self"] []
  h_Reader_read_number : Meth K A.C_Reader "read_number" A.f_Reader_read_number
  F_Reader_read_count : Fun K "read_count" "Reader.read_count" s_Reader_read_count A.f_Reader_read_count A.d_Reader_read_count
  b_Reader_read_count : Binds K A.d_Reader_read_count ["self"] []
  h_Reader_read_count : Meth K A.C_Reader "read_count" A.f_Reader_read_count
  F_Reader_read_character : Fun K "read_character" "Reader.read_character" s_Reader_read_character A.f_Reader_read_character A.d_Reader_read_character
  b_Reader_read_character : Binds K A.d_Reader_read_character ["self"] []
  h_Reader_read_character : Meth K A.C_Reader "read_character" A.f_Reader_read_character
  F_Reader_read_string : Fun K "read_string" "Reader.read_string" s_Reader_read_string A.f_Reader_read_string A.d_Reader_read_string
  b_Reader_read_string : Binds K A.d_Reader_read_string ["self"] []
  h_Reader_read_string : Meth K A.C_Reader "read_string" A.f_Reader_read_string
  F_Reader_read_mark : Fun K "read_mark" "Reader.read_mark" s_Reader_read_mark A.f_Reader_read_mark A.d_Reader_read_mark
  b_Reader_read_mark : Binds K A.d_Reader_read_mark ["self"] []
  h_Reader_read_mark : Meth K A.C_Reader "read_mark" A.f_Reader_read_mark
  F_Reader_read_deed : Fun K "read_deed" "Reader.read_deed" s_Reader_read_deed A.f_Reader_read_deed A.d_Reader_read_deed
  b_Reader_read_deed : Binds K A.d_Reader_read_deed ["self"] []
  h_Reader_read_deed : Meth K A.C_Reader "read_deed" A.f_Reader_read_deed
  F_Reader_read_deeds : Fun K "read_deeds" "Reader.read_deeds" s_Reader_read_deeds A.f_Reader_read_deeds A.d_Reader_read_deeds
  b_Reader_read_deeds : Binds K A.d_Reader_read_deeds ["self"] []
  h_Reader_read_deeds : Meth K A.C_Reader "read_deeds" A.f_Reader_read_deeds
  F_Reader_read_triple : Fun K "read_triple" "Reader.read_triple" s_Reader_read_triple A.f_Reader_read_triple A.d_Reader_read_triple
  b_Reader_read_triple : Binds K A.d_Reader_read_triple ["self"] []
  h_Reader_read_triple : Meth K A.C_Reader "read_triple" A.f_Reader_read_triple
  F_Reader_read_triples : Fun K "read_triples" "Reader.read_triples" s_Reader_read_triples A.f_Reader_read_triples A.d_Reader_read_triples
  b_Reader_read_triples : Binds K A.d_Reader_read_triples ["self"] []
  h_Reader_read_triples : Meth K A.C_Reader "read_triples" A.f_Reader_read_triples
  F_Reader_read_packet : Fun K "read_packet" "Reader.read_packet" s_Reader_read_packet A.f_Reader_read_packet A.d_Reader_read_packet
  b_Reader_read_packet : Binds K A.d_Reader_read_packet ["self"] []
  h_Reader_read_packet : Meth K A.C_Reader "read_packet" A.f_Reader_read_packet
  F_write_number : Fun K "write_number" "write_number" s_write_number A.f_write_number A.d_write_number
  b_write_number : Binds K A.d_write_number ["number"] []
  m_write_number : mg "write_number" = some (.ref A.f_write_number)
  k_write_number : PySem.W.keepIn K (.ref A.f_write_number) = true
  F_write_list : Fun K "write_list" "write_list" s_write_list A.f_write_list A.d_write_list
  b_write_list : Binds K A.d_write_list ["items"] []
  m_write_list : mg "write_list" = some (.ref A.f_write_list)
  k_write_list : PySem.W.keepIn K (.ref A.f_write_list) = true
  F_write_string : Fun K "write_string" "write_string" s_write_string A.f_write_string A.d_write_string
  b_write_string : Binds K A.d_write_string ["text"] []
  m_write_string : mg "write_string" = some (.ref A.f_write_string)
  k_write_string : PySem.W.keepIn K (.ref A.f_write_string) = true
  F_write_mark : Fun K "write_mark" "write_mark" s_write_mark A.f_write_mark A.d_write_mark
  b_write_mark : Binds K A.d_write_mark ["mark"] []
  m_write_mark : mg "write_mark" = some (.ref A.f_write_mark)
  k_write_mark : PySem.W.keepIn K (.ref A.f_write_mark) = true
  F_write_deed : Fun K "write_deed" "write_deed" s_write_deed A.f_write_deed A.d_write_deed
  b_write_deed : Binds K A.d_write_deed ["deed"] []
  m_write_deed : mg "write_deed" = some (.ref A.f_write_deed)
  k_write_deed : PySem.W.keepIn K (.ref A.f_write_deed) = true
  F_write_triples : Fun K "write_triples" "write_triples" s_write_triples A.f_write_triples A.d_write_triples
  b_write_triples : Binds K A.d_write_triples ["triples"] []
  m_write_triples : mg "write_triples" = some (.ref A.f_write_triples)
  k_write_triples : PySem.W.keepIn K (.ref A.f_write_triples) = true
  F_Base___init__ : Fun K "__init__" "Base.__init__" s_Base___init__ A.f_Base___init__ A.d_Base___init__
  b_Base___init__ : Binds K A.d_Base___init__ ["self"] []
  h_Base___init__ : Meth K A.C_Base "__init__" A.f_Base___init__
  F_Base_copy : Fun K "copy" "Base.copy" s_Base_copy A.f_Base_copy A.d_Base_copy
  b_Base_copy : Binds K A.d_Base_copy ["self"] []
  h_Base_copy : Meth K A.C_Base "copy" A.f_Base_copy
  F_Base_data : Fun K "data" "Base.data" s_Base_data A.f_Base_data A.d_Base_data
  b_Base_data : Binds K A.d_Base_data ["self"] []
  h_Base_data : Meth K A.C_Base "data" A.f_Base_data
  F_Base_grown : Fun K "grown" "Base.grown" s_Base_grown A.f_Base_grown A.d_Base_grown
  b_Base_grown : Binds K A.d_Base_grown ["self", "triples"] []
  h_Base_grown : Meth K A.C_Base "grown" A.f_Base_grown
  F_checksum : Fun K "checksum" "checksum" s_checksum A.f_checksum A.d_checksum
  b_checksum : Binds K A.d_checksum ["data"] []
  m_checksum : mg "checksum" = some (.ref A.f_checksum)
  k_checksum : PySem.W.keepIn K (.ref A.f_checksum) = true
  F_write_record : Fun K "write_record" "write_record" s_write_record A.f_write_record A.d_write_record
  b_write_record : Binds K A.d_write_record ["data"] []
  m_write_record : mg "write_record" = some (.ref A.f_write_record)
  k_write_record : PySem.W.keepIn K (.ref A.f_write_record) = true
  F__read_size : Fun K "_read_size" "_read_size" s__read_size A.f__read_size A.d__read_size
  b__read_size : Binds K A.d__read_size ["data", "start"] []
  m__read_size : mg "_read_size" = some (.ref A.f__read_size)
  k__read_size : PySem.W.keepIn K (.ref A.f__read_size) = true
  F_read_records : Fun K "read_records" "read_records" s_read_records A.f_read_records A.d_read_records
  b_read_records : Binds K A.d_read_records ["data"] []
  m_read_records : mg "read_records" = some (.ref A.f_read_records)
  k_read_records : PySem.W.keepIn K (.ref A.f_read_records) = true
  F__write_base : Fun K "_write_base" "_write_base" s__write_base A.f__write_base A.d__write_base
  b__write_base : Binds K A.d__write_base ["base"] []
  m__write_base : mg "_write_base" = some (.ref A.f__write_base)
  k__write_base : PySem.W.keepIn K (.ref A.f__write_base) = true
  F_log_start : Fun K "log_start" "log_start" s_log_start A.f_log_start A.d_log_start
  b_log_start : Binds K A.d_log_start ["turn", "base"] []
  m_log_start : mg "log_start" = some (.ref A.f_log_start)
  k_log_start : PySem.W.keepIn K (.ref A.f_log_start) = true
  F_write_note : Fun K "write_note" "write_note" s_write_note A.f_write_note A.d_write_note
  b_write_note : Binds K A.d_write_note ["triples"] []
  m_write_note : mg "write_note" = some (.ref A.f_write_note)
  k_write_note : PySem.W.keepIn K (.ref A.f_write_note) = true
  F__read_turn : Fun K "_read_turn" "_read_turn" s__read_turn A.f__read_turn A.d__read_turn
  b__read_turn : Binds K A.d__read_turn ["record"] []
  m__read_turn : mg "_read_turn" = some (.ref A.f__read_turn)
  k__read_turn : PySem.W.keepIn K (.ref A.f__read_turn) = true
  F__read_base : Fun K "_read_base" "_read_base" s__read_base A.f__read_base A.d__read_base
  b__read_base : Binds K A.d__read_base ["record"] []
  m__read_base : mg "_read_base" = some (.ref A.f__read_base)
  k__read_base : PySem.W.keepIn K (.ref A.f__read_base) = true
  F__after_note : Fun K "_after_note" "_after_note" s__after_note A.f__after_note A.d__after_note
  b__after_note : Binds K A.d__after_note ["base", "record"] []
  m__after_note : mg "_after_note" = some (.ref A.f__after_note)
  k__after_note : PySem.W.keepIn K (.ref A.f__after_note) = true
  F_read_log : Fun K "read_log" "read_log" s_read_log A.f_read_log A.d_read_log
  b_read_log : Binds K A.d_read_log ["data"] []
  m_read_log : mg "read_log" = some (.ref A.f_read_log)
  k_read_log : PySem.W.keepIn K (.ref A.f_read_log) = true
  F_counting_file : Fun K "counting_file" "counting_file" s_counting_file A.f_counting_file A.d_counting_file
  b_counting_file : Binds K A.d_counting_file ["first", "second"] []
  m_counting_file : mg "counting_file" = some (.ref A.f_counting_file)
  k_counting_file : PySem.W.keepIn K (.ref A.f_counting_file) = true
  F_commits_of : Fun K "commits_of" "commits_of" s_commits_of A.f_commits_of A.d_commits_of
  b_commits_of : Binds K A.d_commits_of ["data"] []
  m_commits_of : mg "commits_of" = some (.ref A.f_commits_of)
  k_commits_of : PySem.W.keepIn K (.ref A.f_commits_of) = true
  F__law_next : Fun K "_law_next" "_law_next" s__law_next A.f__law_next A.d__law_next
  b__law_next : Binds K A.d__law_next ["state", "limit"] []
  m__law_next : mg "_law_next" = some (.ref A.f__law_next)
  k__law_next : PySem.W.keepIn K (.ref A.f__law_next) = true
  F__law_same : Fun K "_law_same" "_law_same" s__law_same A.f__law_same A.d__law_same
  b__law_same : Binds K A.d__law_same ["actual", "expected"] []
  m__law_same : mg "_law_same" = some (.ref A.f__law_same)
  k__law_same : PySem.W.keepIn K (.ref A.f__law_same) = true
  F__law_read_number : Fun K "_law_read_number" "_law_read_number" s__law_read_number A.f__law_read_number A.d__law_read_number
  b__law_read_number : Binds K A.d__law_read_number ["data", "at"] []
  m__law_read_number : mg "_law_read_number" = some (.ref A.f__law_read_number)
  k__law_read_number : PySem.W.keepIn K (.ref A.f__law_read_number) = true
  F__law_sign : Fun K "_law_sign" "_law_sign" s__law_sign A.f__law_sign A.d__law_sign
  b__law_sign : Binds K A.d__law_sign ["code"] []
  m__law_sign : mg "_law_sign" = some (.ref A.f__law_sign)
  k__law_sign : PySem.W.keepIn K (.ref A.f__law_sign) = true
  F__law_read_text : Fun K "_law_read_text" "_law_read_text" s__law_read_text A.f__law_read_text A.d__law_read_text
  b__law_read_text : Binds K A.d__law_read_text ["data", "at"] []
  m__law_read_text : mg "_law_read_text" = some (.ref A.f__law_read_text)
  k__law_read_text : PySem.W.keepIn K (.ref A.f__law_read_text) = true
  F__law_read_mark : Fun K "_law_read_mark" "_law_read_mark" s__law_read_mark A.f__law_read_mark A.d__law_read_mark
  b__law_read_mark : Binds K A.d__law_read_mark ["data", "at"] []
  m__law_read_mark : mg "_law_read_mark" = some (.ref A.f__law_read_mark)
  k__law_read_mark : PySem.W.keepIn K (.ref A.f__law_read_mark) = true
  F__law_read_deed : Fun K "_law_read_deed" "_law_read_deed" s__law_read_deed A.f__law_read_deed A.d__law_read_deed
  b__law_read_deed : Binds K A.d__law_read_deed ["data", "at"] []
  m__law_read_deed : mg "_law_read_deed" = some (.ref A.f__law_read_deed)
  k__law_read_deed : PySem.W.keepIn K (.ref A.f__law_read_deed) = true
  F__law_read_triples : Fun K "_law_read_triples" "_law_read_triples" s__law_read_triples A.f__law_read_triples A.d__law_read_triples
  b__law_read_triples : Binds K A.d__law_read_triples ["data", "at"] []
  m__law_read_triples : mg "_law_read_triples" = some (.ref A.f__law_read_triples)
  k__law_read_triples : PySem.W.keepIn K (.ref A.f__law_read_triples) = true
  F__law_sum : Fun K "_law_sum" "_law_sum" s__law_sum A.f__law_sum A.d__law_sum
  b__law_sum : Binds K A.d__law_sum ["data"] []
  m__law_sum : mg "_law_sum" = some (.ref A.f__law_sum)
  k__law_sum : PySem.W.keepIn K (.ref A.f__law_sum) = true
  F__law_record : Fun K "_law_record" "_law_record" s__law_record A.f__law_record A.d__law_record
  b__law_record : Binds K A.d__law_record ["data"] []
  m__law_record : mg "_law_record" = some (.ref A.f__law_record)
  k__law_record : PySem.W.keepIn K (.ref A.f__law_record) = true
  F__law_records : Fun K "_law_records" "_law_records" s__law_records A.f__law_records A.d__law_records
  b__law_records : Binds K A.d__law_records ["data"] []
  m__law_records : mg "_law_records" = some (.ref A.f__law_records)
  k__law_records : PySem.W.keepIn K (.ref A.f__law_records) = true
  F__law_base : Fun K "_law_base" "_law_base" s__law_base A.f__law_base A.d__law_base
  b__law_base : Binds K A.d__law_base ["record"] []
  m__law_base : mg "_law_base" = some (.ref A.f__law_base)
  k__law_base : PySem.W.keepIn K (.ref A.f__law_base) = true
  F__law_tells : Fun K "_law_tells" "_law_tells" s__law_tells A.f__law_tells A.d__law_tells
  b__law_tells : Binds K A.d__law_tells ["data"] []
  m__law_tells : mg "_law_tells" = some (.ref A.f__law_tells)
  k__law_tells : PySem.W.keepIn K (.ref A.f__law_tells) = true
  F__law_deed : Fun K "_law_deed" "_law_deed" s__law_deed A.f__law_deed A.d__law_deed
  b__law_deed : Binds K A.d__law_deed ["state", "count"] []
  m__law_deed : mg "_law_deed" = some (.ref A.f__law_deed)
  k__law_deed : PySem.W.keepIn K (.ref A.f__law_deed) = true
  F__law_group : Fun K "_law_group" "_law_group" s__law_group A.f__law_group A.d__law_group
  b__law_group : Binds K A.d__law_group ["state", "counts"] []
  m__law_group : mg "_law_group" = some (.ref A.f__law_group)
  k__law_group : PySem.W.keepIn K (.ref A.f__law_group) = true
  F__law_strange : Fun K "_law_strange" "_law_strange" s__law_strange A.f__law_strange A.d__law_strange
  b__law_strange : Binds K A.d__law_strange ["state", "counts"] []
  m__law_strange : mg "_law_strange" = some (.ref A.f__law_strange)
  k__law_strange : PySem.W.keepIn K (.ref A.f__law_strange) = true
  F__law_file : Fun K "_law_file" "_law_file" s__law_file A.f__law_file A.d__law_file
  b__law_file : Binds K A.d__law_file ["state"] []
  m__law_file : mg "_law_file" = some (.ref A.f__law_file)
  k__law_file : PySem.W.keepIn K (.ref A.f__law_file) = true
  F__law_is_told : Fun K "_law_is_told" "_law_is_told" s__law_is_told A.f__law_is_told A.d__law_is_told
  b__law_is_told : Binds K A.d__law_is_told ["data"] []
  m__law_is_told : mg "_law_is_told" = some (.ref A.f__law_is_told)
  k__law_is_told : PySem.W.keepIn K (.ref A.f__law_is_told) = true
  F_law : Fun K "law" "law" s_law A.f_law A.d_law
  b_law : Binds K A.d_law ["script"] []
  m_law : mg "law" = some (.ref A.f_law)
  k_law : PySem.W.keepIn K (.ref A.f_law) = true
  m_Deeds : mg "Deeds" = some (.ref A.C_Deeds)
  c_Deeds : Cls K A.C_Deeds
  M_Deeds : Mk K A.C_Deeds A.f_Deeds___init__
  x_Deeds_rows : NoAttr K A.C_Deeds "rows"
  m_Reader : mg "Reader" = some (.ref A.C_Reader)
  c_Reader : Cls K A.C_Reader
  M_Reader : Mk K A.C_Reader A.f_Reader___init__
  x_Reader_data : NoAttr K A.C_Reader "data"
  x_Reader_at : NoAttr K A.C_Reader "at"
  m_Base : mg "Base" = some (.ref A.C_Base)
  c_Base : Cls K A.C_Base
  M_Base : Mk K A.C_Base A.f_Base___init__
  x_Base_commits : NoAttr K A.C_Base "commits"
  x_Base_deeds : NoAttr K A.C_Base "deeds"
  m_PlanwholeError : mg "PlanwholeError" = some (.ref A.C_PlanwholeError)
  xx_PlanwholeError : PySem.W.excIn K A.C_PlanwholeError [.type "ValueError", .type "Exception", .type "BaseException", .type "object"] "ValueError.__new__" = true
  kk_PlanwholeError : PySem.W.keepIn K (.ref A.C_PlanwholeError) = true
  bb_PlanwholeError : PySem.W.subIn K (.ref A.C_PlanwholeError) (.type "BaseException") = some true
  tt_PlanwholeError : PySem.W.typeIn K (.ref A.C_PlanwholeError) = some (.type "type")
  ii_PlanwholeError : PySem.W.isClsIn K A.C_PlanwholeError = true
  sub_PlanwholeError_PlanwholeError : PySem.W.subIn K (.ref A.C_PlanwholeError) (.ref A.C_PlanwholeError) = some true
  m_DamagedPacket : mg "DamagedPacket" = some (.ref A.C_DamagedPacket)
  xx_DamagedPacket : PySem.W.excIn K A.C_DamagedPacket [.type "ValueError", .type "Exception", .type "BaseException", .type "object"] "ValueError.__new__" = true
  kk_DamagedPacket : PySem.W.keepIn K (.ref A.C_DamagedPacket) = true
  bb_DamagedPacket : PySem.W.subIn K (.ref A.C_DamagedPacket) (.type "BaseException") = some true
  tt_DamagedPacket : PySem.W.typeIn K (.ref A.C_DamagedPacket) = some (.type "type")
  ii_DamagedPacket : PySem.W.isClsIn K A.C_DamagedPacket = true
  sub_DamagedPacket_DamagedPacket : PySem.W.subIn K (.ref A.C_DamagedPacket) (.ref A.C_DamagedPacket) = some true
  m_REPLICAS : mg "REPLICAS" = some A.v_REPLICAS
  r_REPLICAS : RelV (V.int 8) A.v_REPLICAS
  m_BEFORE_PERCENT : mg "BEFORE_PERCENT" = some A.v_BEFORE_PERCENT
  r_BEFORE_PERCENT : RelV (V.str " !\"#$") A.v_BEFORE_PERCENT
  m_AFTER_PERCENT : mg "AFTER_PERCENT" = some A.v_AFTER_PERCENT
  r_AFTER_PERCENT : RelV (V.str "&'()*+,-./0123456789:;<=>?@ABCDEFGHIJKLMNOPQRSTUVWXYZ[\\]^_`abcdefghijklmnopqrstuvwxyz{|}~") A.v_AFTER_PERCENT
  m_NUMBER_BYTES : mg "NUMBER_BYTES" = some A.v_NUMBER_BYTES
  r_NUMBER_BYTES : RelV (V.int 60) A.v_NUMBER_BYTES
  m_CHECKSUM_LIMIT : mg "CHECKSUM_LIMIT" = some A.v_CHECKSUM_LIMIT
  r_CHECKSUM_LIMIT : RelV (V.int 4294967296) A.v_CHECKSUM_LIMIT
  n_bool : mg "bool" = none
  n_int : mg "int" = none
  n_isinstance : mg "isinstance" = none
  n_len : mg "len" = none
  n_list : mg "list" = none
  n_ord : mg "ord" = none
  n_range : mg "range" = none
  n_str : mg "str" = none
  n_sum : mg "sum" = none
  n_tuple : mg "tuple" = none
  n_zip : mg "zip" = none
end My

end
section
set_option maxHeartbeats 4000000
local macro_rules | `(tactic| walk_at "k") => `(tactic| first
  | assumption
  | exact W.Keep.trans (by assumption) (by assumption)
  | exact And.intro (by grind [W.Keep, W.Kp]) (by grind [W.Keep, W.Kt])
  | grind [W.Keep, W.Kp])
local macro_rules | `(tactic| walk_at "f") => `(tactic| first
  | assumption
  | exact L2.SqL.of (by assumption)
  | exact L2.SqT.of (by assumption)
  | exact L2.SqL.of L2.upd_same
  | exact L2.SqT.of L2.upd_same
  | exact L2.upd_same
  | exact W.carryL (by assumption) (by assumption)
  | exact W.carryL (by assumption) (by walk_at "k")
  | exact W.carryT (by assumption) (by walk_at "k")
  | exact W.carry (by assumption) (by grind [W.Keep, W.Kp])
  | exact L2.SqL.of (W.carry (by assumption) (by grind [W.Keep, W.Kp]))
  | exact L2.SqT.of (W.carry (by assumption) (by grind [W.Keep, W.Kp])))
local macro_rules | `(tactic| walk_at "a") => `(tactic| first
  | assumption
  | rfl)
local macro_rules | `(tactic| walk_at "n") => `(tactic| first
  | assumption
  | exact Nat.zero_le _
  | decide
  | (simp only [List.length_cons, List.length_nil]; decide)
  | omega
  | (simp only [PySem.sizeLine_eq]; omega)
  | (simp only [List.length_map, List.length_append, List.length_cons, List.length_nil, PySem.sizeLine_eq]; omega)
  | (simp only [List.length_map, List.length_append, List.length_cons, List.length_nil, List.length_take, List.length_drop, PySem.sizeLine_eq]; omega)
  | (simp only [List.length_map, List.length_append, List.length_cons, List.length_nil, PySem.sizeLine_eq] at *; omega))
local macro_rules | `(tactic| walk_at "c") => `(tactic| first
  | assumption
  | decide
  | exact And.intro (by decide) (by decide)
  | exact Or.inr (And.intro (by decide) (by decide))
  | exact Or.inl (And.intro (by decide) (by decide))
  | exact And.intro (by decide) (And.intro (by decide) (by decide))
  | exact (show (0 : Int) < _ by decide)
  | exact And.intro (by omega) (by omega)
  | exact Or.inl (And.intro (by omega) (by omega))
  | exact Or.inr (And.intro (by omega) (by omega))
  | exact (show (0 : Int) < _ by omega))
local macro_rules | `(tactic| walk_at "v") => `(tactic| with_reducible first
  | refine W.v0 ?_ | refine W.v1 ?_ | refine W.v2 ?_ | refine W.v3 ?_ | refine W.v4 ?_ | refine W.v5 ?_ | refine W.v6 ?_ | refine W.v7 ?_ | refine W.v8 ?_
  | refine W.v9 ?_ | refine W.v10 ?_ | refine W.v11 ?_ | refine W.v12 ?_ | refine W.v13 ?_ | refine W.v14 ?_ | refine W.v15 ?_ | refine W.v16 ?_ | refine W.v17 ?_
  | refine W.g0 ?_ | refine W.g1 ?_ | refine W.g2 ?_ | refine W.g3 ?_ | refine W.g4 ?_ | refine W.g5 ?_ | refine W.g6 ?_ | refine W.g7 ?_ | refine W.g8 ?_
  | refine W.g9 ?_ | refine W.g10 ?_ | refine W.g11 ?_ | refine W.g12 ?_ | refine W.g13 ?_ | refine W.g14 ?_ | refine W.g15 ?_)
local macro_rules | `(tactic| walk_at "e") => `(tactic| with_reducible first
  | refine W.e_c ?_ | refine W.e_op ?_ | refine W.s_seq ?_ | refine W.s_asg ?_ | refine W.e_CB ?_ | refine W.a_cons ?_ | refine W.a_nil ?_ | refine W.e_call ?_
  | refine W.t_test ?_ | refine W.w_B ?_ | refine W.s_if ?_ | refine W.s_ret ?_ | refine W.s_drop ?_ | refine W.e_un ?_ | refine W.e_fld ?_ | refine W.s_fld ?_
  | refine W.e_meth ?_ | refine W.e_if ?_ | refine W.e_lst ?_ | refine W.e_tup ?_ | refine W.e_sl ?_ | refine W.o_none ?_ | refine W.o_some ?_ | refine W.w_part ?_
  | refine W.e_bm ?_ | refine W.e_bm0 ?_ | refine W.t_B ?_ | refine W.t_and ?_ | refine W.t_or ?_ | refine W.t_not ?_ | refine W.e_andV ?_ | refine W.e_orV ?_ | refine W.e_notV ?_ | refine W.w_BV ?_ | refine W.e_chain ?_
  | refine W.s_aug ?_ | refine W.s_augS ?_ | refine W.s_next ?_ | refine W.s_brk ?_ | refine W.s_cont ?_ | refine W.s_retN ?_ | refine W.s_fa ?_ | refine W.e_make ?_ | refine W.w_make ?_
  | refine W.w_I0 ?_ | refine W.w_U ?_ | refine W.w_aug ?_ | refine W.w_eqI ?_ | refine W.w_neI ?_ | refine W.w_eqS ?_ | refine W.w_neS ?_ | refine W.w_eqB ?_ | refine W.w_neB ?_
  | refine W.w_int ?_ | refine W.w_intB ?_ | refine W.w_min ?_ | refine W.w_max ?_ | refine W.w_isN ?_ | refine W.w_isI ?_ | refine W.w_isS ?_ | refine W.w_isB ?_ | refine W.w_isR ?_
  | refine W.w_notN ?_ | refine W.w_notI ?_ | refine W.w_notR ?_ | refine W.w_notS ?_ | refine W.w_eqNI ?_ | refine W.w_neNI ?_ | refine W.w_eqN ?_ | refine W.w_neN ?_
  | refine W.s_forL ?_ | refine W.s_forT ?_ | refine W.s_forS ?_ | refine W.s_forR1 ?_ | refine W.s_forR2 ?_ | refine W.s_forR3 ?_ | refine W.s_forZ ?_ | refine W.s_forE ?_
  | refine W.e_lcL ?_ | refine W.e_lcT ?_ | refine W.w_ord ?_ | refine W.e_lcR1 ?_ | refine W.e_lcR2 ?_ | refine W.e_lcZ ?_ | refine W.e_lcS ?_ | refine W.t_yes ?_ | refine W.w_gcons ?_ | refine W.w_gnil ?_ | refine W.s_par ?_ | refine W.w_par ?_ | refine W.g_sub ?_ | refine W.e_m1 ?_ | refine W.w_strR ?_ | refine W.w_rAdd ?_ | refine W.w_rSub ?_ | refine W.s_raise ?_ | refine W.s_try ?_ | refine W.e_methS ?_ | refine W.e_callS ?_)
local macro_rules | `(tactic| walk_at "w") => `(tactic| first
  | ((with_reducible refine' W.w_I ?wh ?wq); (case wh => walk_at "c"))
  | ((with_reducible refine' W.w_ixL (n := 0) ?wh ?we ?wq); (case wh => walk_at "f"); (case we => walk_at "a"))
  | ((with_reducible refine' W.w_ixT (n := 0) ?wh ?we ?wq); (case wh => walk_at "f"); (case we => walk_at "a"))
  | ((with_reducible refine' W.w_lenL ?wh ?wq); (case wh => walk_at "f"))
  | ((with_reducible refine' W.w_lenT ?wh ?wq); (case wh => walk_at "f"))
  | ((with_reducible refine' W.w_lenS ?wh ?wq); (case wh => walk_at "n"))
  | ((with_reducible refine' W.w_app ?wh ?we ?wq); (case wh => walk_at "f"); (case we => walk_at "n"))
  | ((with_reducible refine' W.w_meth ?wh ?we ?wq); (case wh => walk_at "f"); (case we => first | assumption | rfl))
  | ((with_reducible refine' W.w_ixLTl ?wh ?we ?wq); (case wh => walk_at "f"); (case we => walk_at "a"))
  | ((with_reducible refine' W.w_ixLTt ?wh ?we ?wq); (case wh => walk_at "f"); (case we => walk_at "a"))
  | ((with_reducible refine' W.w_addS ?wh ?wq); (case wh => walk_at "n"))
  | ((with_reducible refine' W.w_set ?wh ?we ?wq); (case wh => walk_at "f"); (case we => walk_at "a"))
  | ((with_reducible refine' W.w_tup ?wh ?we ?wq); (case wh => walk_at "f"); (case we => first | assumption | rfl))
  | ((with_reducible refine' W.w_slS ?wh ?wq); (case wh => walk_at "n"))
  | ((with_reducible refine' W.w_rApp ?wh ?we ?wq); (case wh => walk_at "f"); (case we => walk_at "n"))
  | ((with_reducible refine' W.w_newL ?wh ?wq); (case wh => walk_at "n"))
  | ((with_reducible refine' W.w_newT ?wh ?wq); (case wh => walk_at "n"))
  | ((with_reducible refine' W.w_listL ?wh ?wq); (case wh => walk_at "f"))
  | ((with_reducible refine' W.w_tupL ?wh ?wq); (case wh => walk_at "f"))
  | ((with_reducible refine' W.w_slL ?wh ?wq); (case wh => walk_at "f"))
  | ((with_reducible refine' W.w_cat ?wh ?wf ?we ?wq); (case wh => walk_at "f"); (case wf => walk_at "f"); (case we => walk_at "n"))
  | ((with_reducible refine' W.w_catT ?wh ?wf ?wx ?wy ?we ?wq); (case wh => walk_at "f"); (case wf => walk_at "f"); (case wx => exact List.cons_ne_nil _ _); (case wy => exact List.cons_ne_nil _ _); (case we => walk_at "n"))
  | ((with_reducible refine' W.w_ext ?wh ?wf ?we ?wq); (case wh => walk_at "f"); (case wf => walk_at "f"); (case we => walk_at "n"))
  | ((with_reducible refine' W.w_recv ?wh ?wq); (case wh => walk_at "f"))
  | ((with_reducible refine' W.w_isi1 ?wh ?we ?wq); (case wh => assumption); (case we => decide +kernel))
  | ((with_reducible refine' W.w_isi0 ?wh ?we ?wq); (case wh => assumption); (case we => decide +kernel))
  | ((with_reducible refine' W.w_isiT10 ?wh ?wf ?we ?wg ?wq); (case wh => assumption); (case wf => walk_at "f"); (case we => decide +kernel); (case wg => decide +kernel))
  | ((with_reducible refine' W.w_isiT01 ?wh ?wf ?we ?wg ?wq); (case wh => assumption); (case wf => walk_at "f"); (case we => decide +kernel); (case wg => decide +kernel))
  | ((with_reducible refine' W.w_isiT00 ?wh ?wf ?we ?wg ?wq); (case wh => assumption); (case wf => walk_at "f"); (case we => decide +kernel); (case wg => decide +kernel))
  | ((with_reducible refine' W.w_ins ?wh ?we ?wf ?wq); (case wh => walk_at "f"); (case we => walk_at "n"); (case wf => walk_at "c"))
  | ((with_reducible refine' W.w_unl ?wh ?we ?wq); (case wh => walk_at "f"); (case we => first | assumption | rfl))
  | ((with_reducible refine' W.ite_T ?_))
  | ((with_reducible refine' W.ite_F ?_))
  | ((with_reducible refine' W.ite_nT ?_))
  | ((with_reducible refine' W.ite_nF ?_))
  | ((with_reducible refine' W.ite_self ?_))
  | ((with_reducible refine' W.ite_nself ?_))
  | ((with_reducible refine' W.ite_tf ?_))
  | ((with_reducible refine' W.ite_ft ?_))
  | ((with_reducible refine' W.ite_ntf ?_))
  | ((with_reducible refine' W.ite_nft ?_))
  | ((with_reducible refine' And.intro ?wl ?wq); (case wl => rfl)))
local macro_rules | `(tactic| walk_at "i") => `(tactic| try (dsimp only [L2.cxOf, L2.wipe, List.map, List.set]))
local macro_rules | `(tactic| walk_at "s") => `(tactic| first | walk_at "v" | walk_at "e" | walk_at "w")
local macro_rules | `(tactic| walk_at "r") => `(tactic| repeat walk_at "s")

namespace My
open PySem L2 W
/-- a reader's fields -/
def rdF (d : Addr) (p : Nat) : List (Str × V) := [("data", .ref d), ("at", .int (p : Int))]
theorem ne1 : ¬ (("data" : Str) = "at") := by decide +kernel
theorem lk1 {d : Addr} {p : Nat} : (rdF d p).lookup ("data" : Str) = some (.ref d) := by simp [rdF, List.lookup]
theorem lk2 {d : Addr} {p : Nat} : (rdF d p).lookup ("at" : Str) = some (.int (p : Int)) := by
  have h : (("at" : Str) == "data") = false := by decide +kernel
  simp [rdF, List.lookup, h]
theorem lkn {d : Addr} {p : Nat} {m : Str} (h1 : (m == ("data" : Str)) = false) (h2 : (m == ("at" : Str)) = false) : (rdF d p).lookup m = none := by simp [rdF, List.lookup, h1, h2]
theorem pf0 {d : Addr} : putF "at" (.int 0) (putF "data" (.ref d) []) = rdF d 0 := by
  show (if ("data" : Str) = "at" then _ else (("data" : Str), V.ref d) :: [(("at" : Str), V.int 0)]) = _
  rw [if_neg ne1]; rfl
theorem pf1 {d : Addr} {p : Nat} : putF "at" (.int ((p : Int) + 1)) (rdF d p) = rdF d (p + 1) := by
  show (if ("data" : Str) = "at" then _ else (("data" : Str), V.ref d) :: (if ("at" : Str) = "at" then [(("at" : Str), V.int ((p : Int) + 1))] else _)) = _
  rw [if_neg ne1, if_pos rfl]; rfl
local macro_rules | `(tactic| walk_at "w") => `(tactic| first
  | ((with_reducible refine' W.w_getF ?wh ?wc ?wn ?wl ?wq); (case wh => walk_at "f"); (case wc => exact Env.c_Reader (by assumption)); (case wn => first | exact Env.x_Reader_data (by assumption) | exact Env.x_Reader_at (by assumption)); (case wl => first | exact lk1 | exact lk2))
  | ((with_reducible refine' W.w_fa ?wh ?wc ?wn ?wl ?wq); (case wh => walk_at "f"); (case wc => exact Env.c_Reader (by assumption)); (case wn => first | exact Env.x_Reader_data (by assumption) | exact Env.x_Reader_at (by assumption)); (case wl => first | exact lk1 | exact lk2))
  | ((with_reducible refine' W.w_pf ?wh ?wl ?wq); (case wh => walk_at "f"); (case wl => exact (show 2 < 1000 by decide)))
  | ((with_reducible refine' W.w_setF ?wh ?wc ?wn ?wl ?wq); (case wh => walk_at "f"); (case wc => exact Env.c_Reader (by assumption)); (case wn => first | exact Env.x_Reader_data (by assumption) | exact Env.x_Reader_at (by assumption)); (case wl => first | exact (show 2 < 1000 by decide) | exact (show 0 < 1000 by decide) | exact Nat.lt_of_le_of_lt (length_putF _ _ _) (show 1 < 1000 by decide))))
variable {P : Program} {w : World} {K : PySem.W.Frag} {mg : Str → Option Value} {base : Heap} {A : Adr}
theorem exm_D (e : Env K mg A) : PySem.W.exmOne K (.ref A.C_DamagedPacket) (.ref A.C_DamagedPacket) = some true := exm_self e.bb_DamagedPacket e.ii_DamagedPacket e.tt_DamagedPacket e.sub_DamagedPacket_DamagedPacket
/-- a reader stands at r, its bytes at d -/
def RdAt (C : Addr) (H : Hp) (r dx d : Addr) (ds : List Int) (p : Nat) : Prop := H r = some (.ins C dx (rdF d p)) ∧ H d = some (.lst (ds.map V.int))
def sp_init (A : Adr) (K : PySem.W.Frag) : Sp := fun vs H Q _ => ∃ (r dx a : Addr) (ds : List Int), vs = [.ref r, .ref a] ∧ H r = some (.ins A.C_Reader dx []) ∧ H a = some (.lst (ds.map V.int)) ∧
  ∀ d H', H d = none → Keep [r] H H' → RdAt A.C_Reader H' r dx d ds 0 → Q .non H'
theorem ok_Reader___init__ (e : Env K mg A) : FnOk P w K mg base CX0 1 A.f_Reader___init__ A.d_Reader___init__ ["self", "data"] (sp_init A K) := by
  refine e.F_Reader___init__.ok sc_Reader___init__ (fun vs H Q E h => ?_) (fun cdv AA outer s H vs Q E hr h => ?_)
  · obtain ⟨r, dx, a, ds, rfl, _⟩ := h
    rfl
  · obtain ⟨r, dx, a, ds, rfl, hr0, ha, q⟩ := h
    refine ⟨_, (pss_cons (ps_fldK (K := K) (pv 0) (pe_callTy (call_listLK (K := K)) (by rfl) e.n_list (by decide +kernel) (pa_cons (pv 1) pa_nil)) rfl)
    (pss_one (ps_fldK (K := K) (pv 0) pe_int rfl))), ?_⟩
    refine enter (st_Reader___init__ _ _) ?_
    walk_at "i"
    walk_at "r"
    intro d H1 nd k1 hd
    walk_at "r"
    intro H2 k2 h2
    have rd : d ≠ r := Ne.symm (ne_of_none hr0 nd)
    have hd2 := k2.get hd (by simp [rd])
    walk_at "r"
    intro H3 k3 h3
    rw [pf0] at h3
    walk_at "r"
    exact q d H3 nd (k1.any.trans (k2.trans k3)) ⟨h3, k3.get hd2 (by simp [rd])⟩
def sp_byte (A : Adr) : Sp := fun vs H Q E => ∃ (r dx d : Addr) (ds : List Int) (p : Nat), vs = [.ref r] ∧ RdAt A.C_Reader H r dx d ds p ∧
  (p < ds.length → ∀ H', Keep [r] H H' → RdAt A.C_Reader H' r dx d ds (p + 1) → Q (.int (ds.getD p 0)) H') ∧ (¬ p < ds.length → E (.ref A.C_DamagedPacket) none H)
theorem RdAt.ne {C : Addr} {H : Hp} {r dx d : Addr} {ds : List Int} {p : Nat} (h : RdAt C H r dx d ds p) : d ≠ r := by
  intro z; subst z; obtain ⟨h1, h2⟩ := h; rw [h1] at h2; cases h2
theorem RdAt.keep {S : List Addr} {C : Addr} {H H' : Hp} {r dx d : Addr} {ds : List Int} {p : Nat} (h : RdAt C H r dx d ds p) (k : Keep S H H') (n : r ∉ S) (n2 : d ∉ S) : RdAt C H' r dx d ds p := ⟨k.get h.1 n, k.get h.2 n2⟩
theorem ok_Reader_read_byte (e : Env K mg A) : FnOk P w K mg base (L2.CX P w) 1 A.f_Reader_read_byte A.d_Reader_read_byte ["self"] (sp_byte A) := by
  refine e.F_Reader_read_byte.okX sc_Reader_read_byte (fun vs H Q E h => ?_) (fun cdv AA outer s H vs Q E hr h => ?_)
  · obtain ⟨r, dx, d, ds, p, rfl, _⟩ := h
    rfl
  · obtain ⟨r, dx, d, ds, p, rfl, hR, q1, q2⟩ := h
    have hne := hR.ne
    obtain ⟨h1, h2⟩ := hR
    refine ⟨_, (pss_cons (ps_if (pt_cmpR op_ge (pe_fldK (K := K) (pv 0) rfl) (pe_callB (call_lenLK (K := K)) (by rfl) e.n_len (by decide +kernel) (pa_cons (pe_fldK (K := K) (pv 0) rfl) pa_nil)) (nomark _)) (pss_one (ps_raise1 rfl (takes_of rfl rfl rfl rfl) PySem.F.excBase_ValueError e.xx_DamagedPacket e.m_DamagedPacket e.kk_DamagedPacket (raises_own e.bb_DamagedPacket e.tt_DamagedPacket) (by rfl))) pss_nil)
    (pss_cons (ps_fldaugK (K := K) (pv 0) pe_int in_add)
    (pss_one (ps_ret (pe_ix (ix_listK (K := K)) (pe_fldK (K := K) (pv 0) rfl) (pe_op op_sub (pe_fldK (K := K) (pv 0) rfl) pe_int) (fun _ _ => rfl)))))), ?_⟩
    refine enter (st_Reader_read_byte _) ?_
    walk_at "i"
    walk_at "r"
    rw [List.length_map]
    refine ite_dec (fun hl => ?_) (fun hl => ?_)
    · walk_at "r"
      exact q2 (by omega)
    · walk_at "r"
      intro H1 k1 h3
      rw [pf1] at h3
      have hd1 := k1.get h2 (by simp [hne])
      have hp : p < ds.length := by omega
      have hat : atI (ds.map V.int) (((p + 1 : Nat) : Int) - 1) = some (.int (ds.getD p 0)) := by
        rw [show ((p + 1 : Nat) : Int) - 1 = (p : Int) by omega]
        refine atI_nat ?_
        rw [List.getElem?_map, List.getD_eq_getElem?_getD, List.getElem?_eq_getElem hp]; rfl
      walk_at "r"
      exact q1 hp H1 k1 ⟨h3, hd1⟩
/-! ### what a reader promises: what P reads of its bytes -/
def spR (A : Adr) {α : Type} (P : Rdr α) (Val : Hp → α → V → Prop) : Sp := fun vs H Q E => ∃ (r dx d : Addr) (ds : List Int) (p : Nat), vs = [.ref r] ∧ RdAt A.C_Reader H r dx d ds p ∧ ds.length ≤ 1000000 ∧
  (∀ a q, P ds p = some (a, q) → ∀ v H', Keep [r] H H' → RdAt A.C_Reader H' r dx d ds q → Val H' a v → Q v H') ∧ (P ds p = none → ∀ H', Keep [r] H H' → E (.ref A.C_DamagedPacket) none H')
def vN (_ : Hp) (n : Nat) (v : V) : Prop := v = .int (n : Int)
def vI (_ : Hp) (n : Int) (v : V) : Prop := v = .int n
def vC (_ : Hp) (c : Nat) (v : V) : Prop := v = .str (tx [c])
def vS (_ : Hp) (s : List Nat) (v : V) : Prop := v = .str (tx s)
def vM (H : Hp) (m : Nat × Nat) (v : V) : Prop := ∃ t, v = .ref t ∧ H t = some (.tup [.int (m.1 : Int), .int (m.2 : Int)])
def vB (H : Hp) : Option (Nat × Nat) → V → Prop
  | none, v => v = .non
  | some m, v => vM H m v
def vMs (H : Hp) (rm : List (Nat × Nat)) (us : List V) : Prop := Paired (fun v m => vM H m v) us rm
def vD (H : Hp) : Dd → V → Prop
  | .back n, v => ∃ t, v = .ref t ∧ H t = some (.tup [.str "back", .int (n : Int)])
  | .chg m rm bh n t, v => ∃ a r us b, v = .ref a ∧ H a = some (.tup [.str "change", .str (tx m), .ref r, b, .int (n : Int), .str (tx t)]) ∧ H r = some (.tup us) ∧ vMs H rm us ∧ vB H bh b
def vT (H : Hp) (t : Tri) (v : V) : Prop := ∃ a b, v = .ref a ∧ H a = some (.tup [.int (t.r : Int), .int (t.p : Int), b]) ∧ vD H t.d b
def vTs (H : Hp) (ts : List Tri) (us : List V) : Prop := Paired (fun v t => vT H t v) us ts
def vTl (H : Hp) (ts : List Tri) (v : V) : Prop := ∃ a us, v = .ref a ∧ H a = some (.lst us) ∧ vTs H ts us
section
variable {H H' : Hp} {S : List Addr}
theorem vM.keep {m : Nat × Nat} {v : V} (h : vM H m v) (k : Keep S H H') : vM H' m v := by obtain ⟨t, e, h⟩ := h; exact ⟨t, e, k.2 _ _ h⟩
theorem vMs.keep {rm : List (Nat × Nat)} {us : List V} (h : vMs H rm us) (k : Keep S H H') : vMs H' rm us := Paired.mapP h fun _ _ h => vM.keep h k
theorem vB.keep {bh : Option (Nat × Nat)} {v : V} (h : vB H bh v) (k : Keep S H H') : vB H' bh v := by
  cases bh with
  | none => exact h
  | some m => exact vM.keep h k
theorem vD.keep {d : Dd} {v : V} (h : vD H d v) (k : Keep S H H') : vD H' d v := by
  cases d with
  | back n => obtain ⟨t, e, h⟩ := h; exact ⟨t, e, k.2 _ _ h⟩
  | chg m rm bh n t =>
    obtain ⟨a, r, us, b, e, h1, h2, h3, h4⟩ := h
    exact ⟨a, r, us, b, e, k.2 _ _ h1, k.2 _ _ h2, vMs.keep h3 k, vB.keep h4 k⟩
theorem vT.keep {t : Tri} {v : V} (h : vT H t v) (k : Keep S H H') : vT H' t v := by obtain ⟨a, b, e, h1, h2⟩ := h; exact ⟨a, b, e, k.2 _ _ h1, vD.keep h2 k⟩
theorem vTs.keep {ts : List Tri} {us : List V} (h : vTs H ts us) (k : Keep S H H') : vTs H' ts us := Paired.mapP h fun _ _ h => vT.keep h k
end
theorem ok_Reader_read_number (e : Env K mg A) : FnOk P w K mg base (L2.CX P w) 2 A.f_Reader_read_number A.d_Reader_read_number ["self"] (spR A pnum vN) := by
  have G_Reader_read_byte := ok_Reader_read_byte (P := P) (w := w) (base := base) e
  refine e.F_Reader_read_number.okX sc_Reader_read_number (fun vs H Q E h => ?_) (fun cdv AA outer s H vs Q E hr h => ?_)
  · obtain ⟨r, dx, d, ds, p, rfl, _⟩ := h
    rfl
  · obtain ⟨r, dx, d, ds, p, rfl, hR, _, q1', q2'⟩ := h
    have q1 : ∀ i n, rn 60 (ds.drop p) 0 0 1 = some (i, n) → ∀ H', Keep [r] H H' → RdAt A.C_Reader H' r dx d ds (p + i) → Q (.int n) H' := fun i n h H' k R => by
      obtain ⟨e1, e2⟩ := pnum_some h
      rw [e2]
      exact q1' _ _ e1 _ H' k R rfl
    have q2 : rn 60 (ds.drop p) 0 0 1 = none → ∀ H' p', Keep [r] H H' → RdAt A.C_Reader H' r dx d ds p' → E (.ref A.C_DamagedPacket) none H' := fun h H' p' k _ => q2' (pnum_none h) H' k
    refine ⟨_, (pss_cons (ps_set (i := 1) sc_Reader_read_number.nd rfl (Or.inl rfl) pe_int)
    (pss_cons (ps_set (i := 2) sc_Reader_read_number.nd rfl (Or.inl rfl) pe_int)
    (pss_cons (ps_for (passes_of rfl) rfl (pi_range1 rfl e.n_range (pa_cons (pe_glob (by rfl) e.m_NUMBER_BYTES e.r_NUMBER_BYTES) pa_nil)) (pg_name (i := 3) sc_Reader_read_number.nd rfl (Or.inl rfl)) (pss_cons (ps_set (i := 4) sc_Reader_read_number.nd rfl (Or.inl rfl) (pe_meth0 (pv 0) e.c_Reader e.h_Reader_read_byte G_Reader_read_byte (hr.mono (by omega)) e.b_Reader_read_byte .nil (passes_call (takes_of rfl rfl rfl rfl) (fun _ _ _ _ h => h))))
    (pss_cons (ps_aug (i := 1) sc_Reader_read_number.nd rfl (Or.inl rfl) (pe_op op_mul (pe_op op_mod (pv 4) pe_int) (pv 2)) ip_add)
    (pss_cons (ps_if (pt_cmpR op_lt (pv 4) pe_int (nomark _)) (pss_cons (ps_if (PW.pt (pw_and (pt_cmpR op_eq (pv 4) pe_int (nomark _)) (pw_and1 (pt_cmpR op_gt (pv 3) pe_int (nomark _))))) (pss_one (ps_raise1 rfl (takes_of rfl rfl rfl rfl) PySem.F.excBase_ValueError e.xx_DamagedPacket e.m_DamagedPacket e.kk_DamagedPacket (raises_own e.bb_DamagedPacket e.tt_DamagedPacket) (by rfl))) pss_nil)
    (pss_one (ps_ret (pv 1)))) pss_nil)
    (pss_one (ps_set (i := 2) sc_Reader_read_number.nd rfl (Or.inl rfl) (pe_op op_mul (pv 2) pe_int)))))))
    (pss_one (ps_raise1 rfl (takes_of rfl rfl rfl rfl) PySem.F.excBase_ValueError e.xx_DamagedPacket e.m_DamagedPacket e.kk_DamagedPacket (raises_own e.bb_DamagedPacket e.tt_DamagedPacket) (by rfl)))))), ?_⟩
    refine enter (st_Reader_read_number _) ?_
    walk_at "i"
    walk_at "r"
    refine forR1 (by omega) (by omega) (fun i σ H' => ∃ (t c : Int) (v3 v4 : Option V), σ = [some (.ref r), some (.int t), some (.int c), v3, v4] ∧ Keep [r] H H' ∧ RdAt A.C_Reader H' r dx d ds (p + i) ∧ i ≤ 60 ∧
        rn 60 (ds.drop p) 0 0 1 = rn (60 - i) (ds.drop (p + i)) i t c)
      ⟨_, _, _, _, rfl, Keep.refl, hR, by omega, rfl⟩ ?_ ?_
    · rintro i σ H1 hi ⟨t, c, v3, v4, rfl, k1, R1, hi2, hrn⟩
      have hr1 := R1.1
      obtain ⟨f, hf⟩ : ∃ f, 60 - i = f + 1 := ⟨59 - i, by omega⟩
      rw [hf] at hrn
      have hlk : (rdF d (p + i)).lookup ("read_byte" : Str) = none := lkn (by decide +kernel) (by decide +kernel)
      walk_at "r"
      refine ⟨r, dx, d, ds, p + i, rfl, R1, fun hp H2 k2 R2 => ?_, fun hp => ?_⟩
      · have hd : ds.drop (p + i) = ds.getD (p + i) 0 :: ds.drop (p + (i + 1)) := by
          rw [List.drop_eq_getElem_cons hp, List.getD_eq_getElem?_getD, List.getElem?_eq_getElem hp]; rfl
        rw [hd] at hrn
        generalize ds.getD (p + i) 0 = b at hrn
        have hrn2 : rn 60 (ds.drop p) 0 0 1 = if b < 128 then (if b = 0 ∧ 0 < i then none else some (i + 1, t + b % 128 * c)) else rn f (ds.drop (p + (i + 1))) (i + 1) (t + b % 128 * c) (c * 128) := hrn
        have R2' : RdAt A.C_Reader H2 r dx d ds (p + (i + 1)) := R2
        walk_at "r"
        refine ite_dec (fun hb => ?_) (fun hb => ?_)
        · rw [if_pos hb] at hrn2
          walk_at "r"
          have ret : ¬ (b = 0 ∧ 0 < i) → Q (.int (t + b % 128 * c)) H2 := fun z => by
            rw [if_neg z] at hrn2
            exact q1 _ _ hrn2 H2 (k1.trans k2) R2'
          refine ite_dec (fun h0 => ?_) (fun h0 => ?_)
          · walk_at "r"
            refine ite_dec (fun h1 => ?_) (fun h1 => ?_)
            · walk_at "r"
              rw [if_pos ⟨h0, by omega⟩] at hrn2
              exact q2 hrn2 H2 _ (k1.trans k2) R2'
            · walk_at "r"
              exact ret (fun z => h1 (by omega))
          · walk_at "r"
            exact ret (fun z => h0 z.1)
        · rw [if_neg hb] at hrn2
          walk_at "r"
          refine ⟨_, _, _, _, rfl, k1.trans k2, R2', by omega, ?_⟩
          rw [hrn2, show 60 - (i + 1) = f by omega]
      · rw [show ds.drop (p + i) = [] from List.drop_of_length_le (by omega)] at hrn
        exact q2 hrn H1 _ k1 R1
    · rintro σ H1 ⟨t, c, v3, v4, rfl, k1, R1, hi2, hrn⟩
      walk_at "r"
      exact q2 hrn H1 _ k1 R1
/-- a choice among the first -/
def sp_choice (A : Adr) : Sp := fun vs H Q E => ∃ (r dx d : Addr) (ds : List Int) (p : Nat), vs = [.ref r, .int 2] ∧ RdAt A.C_Reader H r dx d ds p ∧
  (∀ a q, pch ds p = some (a, q) → ∀ H', Keep [r] H H' → RdAt A.C_Reader H' r dx d ds q → Q (.int a) H') ∧ (pch ds p = none → ∀ H', Keep [r] H H' → E (.ref A.C_DamagedPacket) none H')
theorem pbyte_yes {ds : List Int} {p : Nat} (h : p < ds.length) : pbyte ds p = some (ds.getD p 0, p + 1) := by unfold pbyte; rw [if_pos h]
theorem pbyte_no {ds : List Int} {p : Nat} (h : ¬ p < ds.length) : pbyte ds p = none := by unfold pbyte; rw [if_neg h]
theorem ok_Reader_read_choice (e : Env K mg A) : FnOk P w K mg base (L2.CX P w) 2 A.f_Reader_read_choice A.d_Reader_read_choice ["self", "count"] (sp_choice A) := by
  have G_Reader_read_byte := ok_Reader_read_byte (P := P) (w := w) (base := base) e
  refine e.F_Reader_read_choice.okX sc_Reader_read_choice (fun vs H Q E h => ?_) (fun cdv AA outer s H vs Q E hr h => ?_)
  · obtain ⟨r, dx, d, ds, p, rfl, _⟩ := h
    rfl
  · obtain ⟨r, dx, d, ds, p, rfl, hR, q1, q2⟩ := h
    refine ⟨_, (pss_cons (ps_set (i := 2) sc_Reader_read_choice.nd rfl (Or.inl rfl) (pe_meth0 (pv 0) e.c_Reader e.h_Reader_read_byte G_Reader_read_byte (hr.mono (by omega)) e.b_Reader_read_byte .nil (passes_call (takes_of rfl rfl rfl rfl) (fun _ _ _ _ h => h))))
    (pss_cons (ps_if (pt_cmpR op_ge (pv 2) (pv 1) (nomark _)) (pss_one (ps_raise1 rfl (takes_of rfl rfl rfl rfl) PySem.F.excBase_ValueError e.xx_DamagedPacket e.m_DamagedPacket e.kk_DamagedPacket (raises_own e.bb_DamagedPacket e.tt_DamagedPacket) (by rfl))) pss_nil)
    (pss_one (ps_ret (pv 2))))), ?_⟩
    refine enter (st_Reader_read_choice _ _) ?_
    walk_at "i"
    have hr1 := hR.1
    have hlk : (rdF d p).lookup ("read_byte" : Str) = none := lkn (by decide +kernel) (by decide +kernel)
    walk_at "r"
    refine ⟨r, dx, d, ds, p, rfl, hR, fun hp H2 k2 R2 => ?_, fun hp => q2 (by unfold pch; rw [pbyte_no hp]; rfl) H Keep.refl⟩
    have hc : pch ds p = if 2 ≤ ds.getD p 0 then none else some (ds.getD p 0, p + 1) := by unfold pch; rw [pbyte_yes hp]; rfl
    walk_at "r"
    refine ite_dec (fun h2 => ?_) (fun h2 => ?_)
    · walk_at "r"
      exact q2 (by rw [hc, if_pos h2]) H2 k2
    · walk_at "r"
      exact q1 _ _ (by rw [hc, if_neg h2]) H2 k2 R2
def sp_end (A : Adr) : Sp := fun vs H Q E => ∃ (r dx d : Addr) (ds : List Int) (p : Nat), vs = [.ref r] ∧ RdAt A.C_Reader H r dx d ds p ∧ (¬ p < ds.length → Q .non H) ∧ (p < ds.length → E (.ref A.C_DamagedPacket) none H)
theorem ok_Reader_end (e : Env K mg A) : FnOk P w K mg base (L2.CX P w) 1 A.f_Reader_end A.d_Reader_end ["self"] (sp_end A) := by
  refine e.F_Reader_end.okX sc_Reader_end (fun vs H Q E h => ?_) (fun cdv AA outer s H vs Q E hr h => ?_)
  · obtain ⟨r, dx, d, ds, p, rfl, _⟩ := h
    rfl
  · obtain ⟨r, dx, d, ds, p, rfl, hR, q1, q2⟩ := h
    obtain ⟨h1, h2⟩ := hR
    refine ⟨_, (pss_one (ps_if (pt_cmpR op_lt (pe_fldK (K := K) (pv 0) rfl) (pe_callB (call_lenLK (K := K)) (by rfl) e.n_len (by decide +kernel) (pa_cons (pe_fldK (K := K) (pv 0) rfl) pa_nil)) (nomark _)) (pss_one (ps_raise1 rfl (takes_of rfl rfl rfl rfl) PySem.F.excBase_ValueError e.xx_DamagedPacket e.m_DamagedPacket e.kk_DamagedPacket (raises_own e.bb_DamagedPacket e.tt_DamagedPacket) (by rfl))) pss_nil)), ?_⟩
    refine enter (st_Reader_end _) ?_
    walk_at "i"
    walk_at "r"
    rw [List.length_map]
    refine ite_dec (fun hl => ?_) (fun hl => ?_)
    · walk_at "r"
      exact q2 (by omega)
    · walk_at "r"
      exact q1 (by omega)
theorem ok_Reader_read_count (e : Env K mg A) : FnOk P w K mg base (L2.CX P w) 3 A.f_Reader_read_count A.d_Reader_read_count ["self"] (spR A pcnt vN) := by
  have G_Reader_read_number := ok_Reader_read_number (P := P) (w := w) (base := base) e
  refine e.F_Reader_read_count.okX sc_Reader_read_count (fun vs H Q E h => ?_) (fun cdv AA outer s H vs Q E hr h => ?_)
  · obtain ⟨r, dx, d, ds, p, rfl, _⟩ := h
    rfl
  · obtain ⟨r, dx, d, ds, p, rfl, hR, hl, q1, q2⟩ := h
    refine ⟨_, (pss_cons (ps_set (i := 1) sc_Reader_read_count.nd rfl (Or.inl rfl) (pe_meth0 (pv 0) e.c_Reader e.h_Reader_read_number G_Reader_read_number (hr.mono (by omega)) e.b_Reader_read_number .nil (passes_call (takes_of rfl rfl rfl rfl) (fun _ _ _ _ h => h))))
    (pss_cons (ps_if (pt_cmpR op_gt (pv 1) (pe_op op_sub (pe_callB (call_lenLK (K := K)) (by rfl) e.n_len (by decide +kernel) (pa_cons (pe_fldK (K := K) (pv 0) rfl) pa_nil)) (pe_fldK (K := K) (pv 0) rfl)) (nomark _)) (pss_one (ps_raise1 rfl (takes_of rfl rfl rfl rfl) PySem.F.excBase_ValueError e.xx_DamagedPacket e.m_DamagedPacket e.kk_DamagedPacket (raises_own e.bb_DamagedPacket e.tt_DamagedPacket) (by rfl))) pss_nil)
    (pss_one (ps_ret (pv 1))))), ?_⟩
    refine enter (st_Reader_read_count _) ?_
    walk_at "i"
    have hr1 := hR.1
    have hlk : (rdF d p).lookup ("read_number" : Str) = none := lkn (by decide +kernel) (by decide +kernel)
    walk_at "r"
    refine ⟨r, dx, d, ds, p, rfl, hR, hl, fun n q hn v H2 k2 R2 hv => ?_, fun hn H2 k2 => q2 (by unfold pcnt; rw [hn]; rfl) H2 k2⟩
    cases hv
    have hc : pcnt ds p = if ds.length < n + q then none else some (n, q) := by unfold pcnt; rw [hn]; rfl
    obtain ⟨h1, h2⟩ := R2
    walk_at "r"
    rw [List.length_map]
    refine ite_dec (fun h3 => ?_) (fun h3 => ?_)
    · walk_at "r"
      exact q2 (by rw [hc, if_pos (by omega)]) H2 k2
    · walk_at "r"
      exact q1 _ _ (by rw [hc, if_neg (by omega)]) _ H2 k2 ⟨h1, h2⟩ rfl
theorem bef_ : (Str.ofString " !\"#$").cps.toList = List.range' 32 5 := by decide +kernel
theorem aft_ : (Str.ofString "&'()*+,-./0123456789:;<=>?@ABCDEFGHIJKLMNOPQRSTUVWXYZ[\\]^_`abcdefghijklmnopqrstuvwxyz{|}~").cps.toList = List.range' 38 89 := by decide +kernel
theorem nl_ : Str.ofString "\n" = tx [10] := by decide +kernel
theorem em_ : Str.ofString "" = tx [] := by decide +kernel
theorem bef_at {n : Nat} (h1 : 32 ≤ n) (h2 : n < 37) : atI (Str.ofString " !\"#$").cps.toList ((n : Int) - 32) = some n := by
  rw [bef_, show (n : Int) - 32 = ((n - 32 : Nat) : Int) by omega]
  exact atI_nat (by rw [List.getElem?_range' (by omega)]; congr 1; omega)
theorem aft_at {n : Nat} (h1 : 38 ≤ n) (h2 : n < 127) : atI (Str.ofString "&'()*+,-./0123456789:;<=>?@ABCDEFGHIJKLMNOPQRSTUVWXYZ[\\]^_`abcdefghijklmnopqrstuvwxyz{|}~").cps.toList ((n : Int) - 38) = some n := by
  rw [aft_, show (n : Int) - 38 = ((n - 38 : Nat) : Int) by omega]
  exact atI_nat (by rw [List.getElem?_range' (by omega)]; congr 1; omega)
theorem bef_z : (Str.ofString " !\"#$").length ≤ sizeLine := by rw [PySem.sizeLine_eq]; decide +kernel
theorem aft_z : (Str.ofString "&'()*+,-./0123456789:;<=>?@ABCDEFGHIJKLMNOPQRSTUVWXYZ[\\]^_`abcdefghijklmnopqrstuvwxyz{|}~").length ≤ sizeLine := by rw [PySem.sizeLine_eq]; decide +kernel
theorem ok_Reader_read_character (e : Env K mg A) : FnOk P w K mg base (L2.CX P w) 3 A.f_Reader_read_character A.d_Reader_read_character ["self"] (spR A psig vC) := by
  have G_Reader_read_number := ok_Reader_read_number (P := P) (w := w) (base := base) e
  refine e.F_Reader_read_character.okX sc_Reader_read_character (fun vs H Q E h => ?_) (fun cdv AA outer s H vs Q E hr h => ?_)
  · obtain ⟨r, dx, d, ds, p, rfl, _⟩ := h
    rfl
  · obtain ⟨r, dx, d, ds, p, rfl, hR, hl, q1, q2⟩ := h
    refine ⟨_, (pss_cons (ps_set (i := 1) sc_Reader_read_character.nd rfl (Or.inl rfl) (pe_meth0 (pv 0) e.c_Reader e.h_Reader_read_number G_Reader_read_number (hr.mono (by omega)) e.b_Reader_read_number .nil (passes_call (takes_of rfl rfl rfl rfl) (fun _ _ _ _ h => h))))
    (pss_cons (ps_if (pt_cmpR op_eq (pv 1) pe_int (nomark _)) (pss_one (ps_ret pe_str)) pss_nil)
    (pss_cons (ps_if (pt_chain op_le op_lt pe_int (pv 1) pe_int) (pss_one (ps_ret (pe_ix ix_str (pe_glob (by rfl) e.m_BEFORE_PERCENT e.r_BEFORE_PERCENT) (pe_op op_sub (pv 1) pe_int) (fun _ _ => rfl)))) pss_nil)
    (pss_cons (ps_if (pt_chain op_le op_lt pe_int (pv 1) pe_int) (pss_one (ps_ret (pe_ix ix_str (pe_glob (by rfl) e.m_AFTER_PERCENT e.r_AFTER_PERCENT) (pe_op op_sub (pv 1) pe_int) (fun _ _ => rfl)))) pss_nil)
    (pss_one (ps_raise1 rfl (takes_of rfl rfl rfl rfl) PySem.F.excBase_ValueError e.xx_DamagedPacket e.m_DamagedPacket e.kk_DamagedPacket (raises_own e.bb_DamagedPacket e.tt_DamagedPacket) (by rfl))))))), ?_⟩
    refine enter (st_Reader_read_character _) ?_
    walk_at "i"
    simp only [nl_]
    have hr1 := hR.1
    have hlk : (rdF d p).lookup ("read_number" : Str) = none := lkn (by decide +kernel) (by decide +kernel)
    walk_at "r"
    refine ⟨r, dx, d, ds, p, rfl, hR, hl, fun n q hn v H2 k2 R2 hv => ?_, fun hn H2 k2 => q2 (by unfold psig; rw [hn]; rfl) H2 k2⟩
    cases hv
    have hc : psig ds p = if okch n then some (n, q) else none := by unfold psig; rw [hn]; rfl
    have yes : okch n = true → ∀ v, v = V.str (tx [n]) → Q v H2 := fun h v hv => q1 _ _ (by rw [hc, if_pos h]) _ H2 k2 R2 hv
    have no : okch n = false → E (.ref A.C_DamagedPacket) none H2 := fun h => q2 (by rw [hc, h]; rfl) H2 k2
    walk_at "r"
    refine ite_dec (fun h1 => ?_) (fun h1 => ?_)
    · walk_at "r"
      have e1 : n = 10 := by omega
      exact yes (by rw [e1]; rfl) _ (by rw [e1])
    walk_at "r"
    refine ite_dec (fun h2 => ?_) (fun h2 => ?_)
    · walk_at "r"
      refine ite_dec (fun h3 => ?_) (fun h3 => ?_)
      · walk_at "r"
        refine w_ixS bef_z (bef_at (by omega) (by omega)) ?_
        exact yes (by unfold okch; simp; omega) _ rfl
      · walk_at "r"
        refine ite_dec (fun h4 => ?_) (fun h4 => ?_)
        · walk_at "r"
          refine ite_dec (fun h5 => ?_) (fun h5 => ?_)
          · walk_at "r"
            refine w_ixS aft_z (aft_at (by omega) (by omega)) ?_
            exact yes (by unfold okch; simp; omega) _ rfl
          · walk_at "r"
            exact no (by unfold okch; simp; omega)
        · walk_at "r"
          exact no (by unfold okch; simp; omega)
    · walk_at "r"
      refine ite_N (by omega) ?_
      walk_at "r"
      exact no (by unfold okch; simp; omega)

/-- a value stays a value -/
def Stays {α : Type} (Val : Hp → α → V → Prop) : Prop := ∀ (S : List Addr) (H H' : Hp) (a : α) (v : V), Val H a v → Keep S H H' → Val H' a v
theorem stays_N : Stays vN := fun _ _ _ _ _ h _ => h
theorem stays_C : Stays vC := fun _ _ _ _ _ h _ => h
theorem stays_S : Stays vS := fun _ _ _ _ _ h _ => h
theorem stays_M : Stays vM := fun _ _ _ _ _ h k => vM.keep h k
theorem stays_T : Stays vT := fun _ _ _ _ _ h k => vT.keep h k
/-- items read one after another into a list D -/
def Many (C : Addr) {α : Type} (P : Rdr α) (Val : Hp → α → V → Prop) (H : Hp) (r dx d : Addr) (ds : List Int) (p : Nat) (D : Addr) (i : Nat) (H' : Hp) : Prop :=
  ∃ (us : List V) (l : List α) (q : Nat), Keep [r] H H' ∧ H' D = some (.lst us) ∧ RdAt C H' r dx d ds q ∧ pmany (P ds) i p = some (l, q) ∧ Paired (fun v a => Val H' a v) us l
theorem Many.start {C : Addr} {α : Type} {P : Rdr α} {Val : Hp → α → V → Prop} {H H1 : Hp} {r dx d D : Addr} {ds : List Int} {p : Nat} (R : RdAt C H r dx d ds p) (k : Keep [] H H1) (h : H1 D = some (.lst [])) : Many C P Val H r dx d ds p D 0 H1 :=
  ⟨[], [], p, k.any, h, R.keep k (by simp) (by simp), rfl, Paired.nil⟩
theorem Many.len {C : Addr} {α : Type} {P : Rdr α} {Val : Hp → α → V → Prop} {H' : Hp} {ds : List Int} {i p q : Nat} {us : List V} {l : List α} (hm : pmany (P ds) i p = some (l, q)) (hp : Paired (fun v a => Val H' a v) us l) : us.length = i := by
  rw [Paired.length hp, pmany_len _ hm]
theorem Many.next {C : Addr} {α : Type} {P : Rdr α} {Val : Hp → α → V → Prop} (sy : Stays Val) {H H3 H4 H5 : Hp} {r dx d D : Addr} {ds : List Int} {p q q2 i : Nat} {us : List V} {l : List α} {a : α} {v : V} (R : RdAt C H r dx d ds p) (nD : H D = none)
    (k3 : Keep [r] H H3) (hm : pmany (P ds) i p = some (l, q)) (hp : Paired (fun v a => Val H3 a v) us l) (ha : P ds q = some (a, q2)) (k4 : Keep [r] H3 H4) (R4 : RdAt C H4 r dx d ds q2) (hv : Val H4 a v) (k5 : Keep [D] H4 H5) (h5 : H5 D = some (.lst (us ++ [v]))) :
    Many C P Val H r dx d ds p D (i + 1) H5 :=
  have rD := ne_of_none R.1 nD
  have dD := ne_of_none R.2 nD
  ⟨us ++ [v], l ++ [a], q2, (k3.trans k4).mut nD k5, h5, R4.keep k5 (by simp [rD]) (by simp [dD]), pmany_step _ hm ha, Paired.snoc (Paired.mapP hp fun _ _ h => sy _ _ _ _ _ h (k4.mono (S' := [r, D]) (by simp) |>.trans (k5.mono (by simp)))) (sy _ _ _ _ _ hv k5)⟩
theorem join_tx1 (l : List Nat) : Txt.join (tx []) (l.map fun c => tx [c]) = tx l := by
  have h := tx_join (l.map fun c => [c])
  rw [List.map_map] at h
  rw [show (l.map fun c => tx [c]) = l.map (tx ∘ fun c => [c]) from rfl, h]
  congr 1
  clear h
  induction l with
  | nil => rfl
  | cons a r ih => rw [List.map_cons, List.flatten_cons, ih]; rfl
theorem pd_chars {H : Hp} : ∀ {us : List V} {l : List Nat}, Paired (fun v a => vC H a v) us l → us = (l.map fun c => tx [c]).map V.str := by
  intro us l h
  induction h with
  | nil => rfl
  | cons h _ ih => cases h; simp [ih]
theorem ok_Reader_read_string (e : Env K mg A) : FnOk P w K mg base (L2.CX P w) 4 A.f_Reader_read_string A.d_Reader_read_string ["self"] (spR A pstr vS) := by
  have G_Reader_read_count := ok_Reader_read_count (P := P) (w := w) (base := base) e
  have G_Reader_read_character := ok_Reader_read_character (P := P) (w := w) (base := base) e
  refine e.F_Reader_read_string.okX sc_Reader_read_string (fun vs H Q E h => ?_) (fun cdv AA outer s H vs Q E hr h => ?_)
  · obtain ⟨r, dx, d, ds, p, rfl, _⟩ := h
    rfl
  · obtain ⟨r, dx, d, ds, p, rfl, hR, hl, q1, q2⟩ := h
    refine ⟨_, (pss_one (ps_ret (pe_joinK (K := K) pe_str (pe_lcX (own := [("_", 1)]) rfl rfl (takes_of rfl rfl rfl rfl) (by rfl) sc_Reader_read_string.nd (pi_range1 rfl e.n_range (pa_cons (pe_meth0 (pv 0) e.c_Reader e.h_Reader_read_count G_Reader_read_count (hr.mono (by omega)) e.b_Reader_read_count .nil (passes_call (takes_of rfl rfl rfl rfl) (fun _ _ _ _ h => h))) pa_nil)) (blkOk_by (own := [("_", 1)]) (N := nm_Reader_read_string) (sc := defScope s_Reader_read_string) (by decide +kernel)) (fun _ _ _ _ _ => (pg_name (i := 1) sc_Reader_read_string.nd rfl (Or.inl rfl))) (fun _ _ _ _ _ => pts_nil) (fun _ _ _ _ _ xe tkx => (pe_meth0 (pv 0) e.c_Reader e.h_Reader_read_character G_Reader_read_character (hr.mono (by omega)) e.b_Reader_read_character .nil (passes_call tkx (fun _ _ _ _ h => h)))))))), ?_⟩
    refine enter (st_Reader_read_string _) ?_
    walk_at "i"
    simp only [em_]
    have hr1 := hR.1
    have hlk : (rdF d p).lookup ("read_count" : Str) = none := lkn (by decide +kernel) (by decide +kernel)
    walk_at "r"
    refine ⟨r, dx, d, ds, p, rfl, hR, hl, fun n q hn v H2 k2 R2 hv => ?_, fun hn H2 k2 => q2 (by unfold pstr plist; rw [hn]; rfl) H2 k2⟩
    cases hv
    have hnl := (pcnt_le hn).1
    have hP : pstr ds p = pmany (psig ds) n q := by unfold pstr plist; rw [hn]; rfl
    walk_at "r"
    walk_at "i"
    refine lcR1 (by omega) (by omega) (fun D i H' => Many A.C_Reader psig vC H2 r dx d ds q D i H') (fun D H3 nD k3 hD => Many.start R2 k3 hD) ?_ ?_
    · rintro D i H3 nD hi ⟨us, l, q', k3, hD, R3, hm, hv⟩
      have hr3 := R3.1
      have hul := Many.len (C := A.C_Reader) hm hv
      have rD := ne_of_none R2.1 nD
      walk_at "i"
      have hlk : (rdF d q').lookup ("read_character" : Str) = none := lkn (by decide +kernel) (by decide +kernel)
      walk_at "r"
      refine ⟨r, dx, d, ds, q', rfl, R3, hl, fun a q2' ha v H4 k4 R4 hv4 => ?_, fun ha H4 k4 => q2 (by rw [hP]; exact pmany_stop (psig ds) hm ha (by omega)) H4 (k2.trans (k3.trans k4))⟩
      have hD4 := k4.get hD (by simp [Ne.symm rD])
      walk_at "r"
      intro H5 k5 h5
      exact Many.next stays_C R2 nD k3 hm hv ha k4 R4 hv4 k5 h5
    · rintro D H3 nD ⟨us, l, q', k3, hD, R3, hm, hv⟩
      walk_at "r"
      have hus := pd_chars hv
      have hll := pmany_len _ hm
      simp only [Int.toNat_natCast] at hm hll
      refine ⟨tx [], D, l.map fun c => tx [c], rfl, rfl, .inl (SqL.of (by rw [← hus]; exact hD)), ?_, ?_⟩
      · rw [List.map_map, List.length_map, tx_len]
        have : ((l.map ((fun x : Str => x.length) ∘ fun c => tx [c])).sum) = l.length := by
          clear hus hll hm hv
          induction l with
          | nil => rfl
          | cons a r ih => rw [List.map_cons, List.sum_cons, ih, List.length_cons]; show (tx [a]).length + _ = _; rw [tx_len, List.length_singleton]; omega
        rw [this]; simp; omega
      · rw [join_tx1]
        exact q1 l q' (by rw [hP]; exact hm) _ H3 (k2.trans k3) R3 rfl
theorem ok_Reader_read_mark (e : Env K mg A) : FnOk P w K mg base (L2.CX P w) 3 A.f_Reader_read_mark A.d_Reader_read_mark ["self"] (spR A pmk vM) := by
  have G_Reader_read_number := ok_Reader_read_number (P := P) (w := w) (base := base) e
  refine e.F_Reader_read_mark.okX sc_Reader_read_mark (fun vs H Q E h => ?_) (fun cdv AA outer s H vs Q E hr h => ?_)
  · obtain ⟨r, dx, d, ds, p, rfl, _⟩ := h
    rfl
  · obtain ⟨r, dx, d, ds, p, rfl, hR, hl, q1, q2⟩ := h
    refine ⟨_, (pss_cons (ps_set (i := 1) sc_Reader_read_mark.nd rfl (Or.inl rfl) (pe_meth0 (pv 0) e.c_Reader e.h_Reader_read_number G_Reader_read_number (hr.mono (by omega)) e.b_Reader_read_number .nil (passes_call (takes_of rfl rfl rfl rfl) (fun _ _ _ _ h => h))))
    (pss_one (ps_ret (pe_tup (pa_cons (pv 1) (pa_cons (pe_meth0 (pv 0) e.c_Reader e.h_Reader_read_number G_Reader_read_number (hr.mono (by omega)) e.b_Reader_read_number .nil (passes_call (takes_of rfl rfl rfl rfl) (fun _ _ _ _ h => h))) pa_nil)))))), ?_⟩
    refine enter (st_Reader_read_mark _) ?_
    walk_at "i"
    have hr1 := hR.1
    have hlk : (rdF d p).lookup ("read_number" : Str) = none := lkn (by decide +kernel) (by decide +kernel)
    walk_at "r"
    refine ⟨r, dx, d, ds, p, rfl, hR, hl, fun n q hn v H2 k2 R2 hv => ?_, fun hn H2 k2 => q2 (by unfold pmk; rw [hn]; rfl) H2 k2⟩
    cases hv
    have hr2 := R2.1
    have hlk : (rdF d q).lookup ("read_number" : Str) = none := lkn (by decide +kernel) (by decide +kernel)
    walk_at "r"
    refine ⟨r, dx, d, ds, q, rfl, R2, hl, fun m q3 hm v H3 k3 R3 hv => ?_, fun hm H3 k3 => q2 (by unfold pmk; rw [hn]; simp only [Option.bind_some]; rw [hm]; rfl) H3 (k2.trans k3)⟩
    cases hv
    walk_at "r"
    intro t H4 nt k4 ht
    walk_at "r"
    exact q1 (n, m) q3 (by unfold pmk; rw [hn]; simp only [Option.bind_some]; rw [hm]; rfl) _ H4 (k2.trans (k3.trans k4.any)) (R3.keep k4 (by simp) (by simp)) ⟨t, rfl, ht⟩
/-- a deed's parts from its removed marks on -/
def pdd5 (ds : List Int) (m : List Nat) (rm : List (Nat × Nat)) (bh : Option (Nat × Nat)) (n : Nat) (p : Nat) : Option (Dd × Nat) := (pstr ds p).map fun t => (.chg m rm bh n t.1, t.2)
def pdd4 (ds : List Int) (m : List Nat) (rm : List (Nat × Nat)) (bh : Option (Nat × Nat)) (p : Nat) : Option (Dd × Nat) := (pnum ds p).bind fun n => pdd5 ds m rm bh n.1 n.2
def pdd3 (ds : List Int) (m : List Nat) (rm : List (Nat × Nat)) (p : Nat) : Option (Dd × Nat) := (pbh ds p).bind fun bh => pdd4 ds m rm bh.1 bh.2
def pdd2 (ds : List Int) (m : List Nat) (p : Nat) : Option (Dd × Nat) := (plist pmk ds p).bind fun rm => pdd3 ds m rm.1 rm.2
theorem pdd_1 {ds : List Int} {p q : Nat} {b : Int} (h : pch ds p = some (b, q)) (h1 : b = 1) : pdd ds p = (pnum ds q).map fun y => (.back y.1, y.2) := by
  unfold pdd; rw [h]; simp only [Option.bind_some]; rw [if_pos h1]
theorem pdd_0 {ds : List Int} {p q : Nat} {b : Int} (h : pch ds p = some (b, q)) (h1 : ¬ b = 1) : pdd ds p = (pstr ds q).bind fun m => pdd2 ds m.1 m.2 := by
  unfold pdd; rw [h]; simp only [Option.bind_some]; rw [if_neg h1]; rfl
theorem pbh_1 {ds : List Int} {p q : Nat} {b : Int} (h : pch ds p = some (b, q)) (h1 : b = 1) : pbh ds p = (pmk ds q).map fun y => (some y.1, y.2) := by
  unfold pbh; rw [h]; simp only [Option.bind_some]; rw [if_pos h1]
theorem pbh_0 {ds : List Int} {p q : Nat} {b : Int} (h : pch ds p = some (b, q)) (h1 : ¬ b = 1) : pbh ds p = some (none, q) := by
  unfold pbh; rw [h]; simp only [Option.bind_some]; rw [if_neg h1]
theorem vMs.len {H : Hp} {rm : List (Nat × Nat)} {us : List V} (h : vMs H rm us) : us.length = rm.length := Paired.length h
theorem ok_Reader_read_deed (e : Env K mg A) : FnOk P w K mg base (L2.CX P w) 5 A.f_Reader_read_deed A.d_Reader_read_deed ["self"] (spR A pdd vD) := by
  have G_Reader_read_choice := ok_Reader_read_choice (P := P) (w := w) (base := base) e
  have G_Reader_read_number := ok_Reader_read_number (P := P) (w := w) (base := base) e
  have G_Reader_read_string := ok_Reader_read_string (P := P) (w := w) (base := base) e
  have G_Reader_read_count := ok_Reader_read_count (P := P) (w := w) (base := base) e
  have G_Reader_read_mark := ok_Reader_read_mark (P := P) (w := w) (base := base) e
  refine e.F_Reader_read_deed.okX sc_Reader_read_deed (fun vs H Q E h => ?_) (fun cdv AA outer s H vs Q E hr h => ?_)
  · obtain ⟨r, dx, d, ds, p, rfl, _⟩ := h
    rfl
  · obtain ⟨r, dx, d, ds, p, rfl, hR, hl, q1, q2⟩ := h
    refine ⟨_, (pss_cons (ps_if (pt_cmpR op_eq (pe_meth (pv 0) e.c_Reader e.h_Reader_read_choice G_Reader_read_choice (hr.mono (by omega)) e.b_Reader_read_choice .nil (passes_call (takes_of rfl rfl rfl rfl) (fun _ _ _ _ h => h)) (pa_cons pe_int pa_nil)) pe_int (nomark _)) (pss_one (ps_ret (pe_tup (pa_cons pe_str (pa_cons (pe_meth0 (pv 0) e.c_Reader e.h_Reader_read_number G_Reader_read_number (hr.mono (by omega)) e.b_Reader_read_number .nil (passes_call (takes_of rfl rfl rfl rfl) (fun _ _ _ _ h => h))) pa_nil))))) pss_nil)
    (pss_cons (ps_set (i := 1) sc_Reader_read_deed.nd rfl (Or.inl rfl) (pe_meth0 (pv 0) e.c_Reader e.h_Reader_read_string G_Reader_read_string (hr.mono (by omega)) e.b_Reader_read_string .nil (passes_call (takes_of rfl rfl rfl rfl) (fun _ _ _ _ h => h))))
    (pss_cons (ps_set (i := 2) sc_Reader_read_deed.nd rfl (Or.inl rfl) (pe_callTy (call_tupleLK (K := K)) (by rfl) e.n_tuple (by decide +kernel) (pa_cons (pe_lcX (own := [("_", 3)]) rfl rfl (takes_of rfl rfl rfl rfl) (by rfl) sc_Reader_read_deed.nd (pi_range1 rfl e.n_range (pa_cons (pe_meth0 (pv 0) e.c_Reader e.h_Reader_read_count G_Reader_read_count (hr.mono (by omega)) e.b_Reader_read_count .nil (passes_call (takes_of rfl rfl rfl rfl) (fun _ _ _ _ h => h))) pa_nil)) (blkOk_by (own := [("_", 3)]) (N := nm_Reader_read_deed) (sc := defScope s_Reader_read_deed) (by decide +kernel)) (fun _ _ _ _ _ => (pg_name (i := 3) sc_Reader_read_deed.nd rfl (Or.inl rfl))) (fun _ _ _ _ _ => pts_nil) (fun _ _ _ _ _ xe tkx => (pe_meth0 (pv 0) e.c_Reader e.h_Reader_read_mark G_Reader_read_mark (hr.mono (by omega)) e.b_Reader_read_mark .nil (passes_call tkx (fun _ _ _ _ h => h))))) pa_nil)))
    (pss_cons (ps_set (i := 4) sc_Reader_read_deed.nd rfl (Or.inl rfl) pe_non)
    (Evl.pss_cut (ps_if (pt_cmpR op_eq (pe_meth (pv 0) e.c_Reader e.h_Reader_read_choice G_Reader_read_choice (hr.mono (by omega)) e.b_Reader_read_choice .nil (passes_call (takes_of rfl rfl rfl rfl) (fun _ _ _ _ h => h)) (pa_cons pe_int pa_nil)) pe_int (nomark _)) (pss_one (ps_set (i := 4) sc_Reader_read_deed.nd rfl (Or.inl rfl) (pe_meth0 (pv 0) e.c_Reader e.h_Reader_read_mark G_Reader_read_mark (hr.mono (by omega)) e.b_Reader_read_mark .nil (passes_call (takes_of rfl rfl rfl rfl) (fun _ _ _ _ h => h))))) pss_nil)
    (pss_cons (ps_set (i := 5) sc_Reader_read_deed.nd rfl (Or.inl rfl) (pe_meth0 (pv 0) e.c_Reader e.h_Reader_read_number G_Reader_read_number (hr.mono (by omega)) e.b_Reader_read_number .nil (passes_call (takes_of rfl rfl rfl rfl) (fun _ _ _ _ h => h))))
    (pss_one (ps_ret (pe_tup (pa_cons pe_str (pa_cons (pv 1) (pa_cons (pv 2) (pa_cons (pv 4) (pa_cons (pv 5) (pa_cons (pe_meth0 (pv 0) e.c_Reader e.h_Reader_read_string G_Reader_read_string (hr.mono (by omega)) e.b_Reader_read_string .nil (passes_call (takes_of rfl rfl rfl rfl) (fun _ _ _ _ h => h))) pa_nil))))))))))))))), ?_⟩
    refine enter (st_Reader_read_deed _) ?_
    walk_at "i"
    have hr1 := hR.1
    have hlk_p : (rdF d p).lookup ("read_choice" : Str) = none := lkn (by decide +kernel) (by decide +kernel)
    walk_at "r"
    refine ⟨r, dx, d, ds, p, rfl, hR, fun b q hb H2 k2 R2 => ?_, fun hb H2 k2 => q2 (by unfold pdd; rw [hb]; rfl) H2 k2⟩
    walk_at "r"
    refine ite_dec (fun h1 => ?_) (fun h1 => ?_)
    · have e1 := pdd_1 hb h1
      have hr_q := R2.1
      have hlk_q : (rdF d q).lookup ("read_number" : Str) = none := lkn (by decide +kernel) (by decide +kernel)
      walk_at "r"
      refine ⟨r, dx, d, ds, q, rfl, R2, hl, fun n q3 hn v H3 k3 R3 hv => ?_, fun hn H3 k3 => q2 (by rw [e1, hn]; rfl) H3 (k2.trans k3)⟩
      cases hv
      walk_at "r"
      intro t H4 nt k4 ht
      walk_at "r"
      exact q1 (.back n) q3 (by rw [e1, hn]; rfl) _ H4 (k2.trans (k3.trans k4.any)) (R3.keep k4 (by simp) (by simp)) ⟨t, rfl, ht⟩
    have e1 := pdd_0 hb h1
    have hr_q := R2.1
    have hlk_q : (rdF d q).lookup ("read_string" : Str) = none := lkn (by decide +kernel) (by decide +kernel)
    walk_at "r"
    refine ⟨r, dx, d, ds, q, rfl, R2, hl, fun m q3 hm v H3 k3 R3 hv => ?_, fun hm H3 k3 => q2 (by rw [e1, hm]; rfl) H3 (k2.trans k3)⟩
    cases hv
    have e2 : pdd ds p = pdd2 ds m q3 := by rw [e1, hm]; rfl
    clear e1
    have hr_q3 := R3.1
    have hlk_q3 : (rdF d q3).lookup ("read_count" : Str) = none := lkn (by decide +kernel) (by decide +kernel)
    walk_at "r"
    refine ⟨r, dx, d, ds, q3, rfl, R3, hl, fun c q4 hc v H4 k4 R4 hv => ?_, fun hc H4 k4 => q2 (by rw [e2]; unfold pdd2 plist; rw [hc]; rfl) H4 (k2.trans (k3.trans k4))⟩
    cases hv
    have hcl := (pcnt_le hc).1
    have e3 : plist pmk ds q3 = pmany (pmk ds) c q4 := by unfold plist; rw [hc]; rfl
    have k24 := k2.trans (k3.trans k4)
    clear k2 k3 k4
    walk_at "r"
    walk_at "i"
    refine lcR1 (by omega) (by omega) (fun D i H' => Many A.C_Reader pmk vM H4 r dx d ds q4 D i H') (fun D H5 nD k5 hD => Many.start R4 k5 hD) ?_ ?_
    · rintro D i H5 nD hi ⟨us, l, q', k5, hD, R5, hmm, hv⟩
      have hul := Many.len (C := A.C_Reader) hmm hv
      have rD := ne_of_none R4.1 nD
      walk_at "i"
      have hr_q5 := R5.1
      have hlk_q5 : (rdF d q').lookup ("read_mark" : Str) = none := lkn (by decide +kernel) (by decide +kernel)
      walk_at "r"
      refine ⟨r, dx, d, ds, q', rfl, R5, hl, fun a q2' ha v H6 k6 R6 hv6 => ?_, fun ha H6 k6 => q2 (by rw [e2]; unfold pdd2; rw [e3, pmany_stop (pmk ds) hmm ha (by omega)]; rfl) H6 (k24.trans (k5.trans k6))⟩
      have hD6 := k6.get hD (by simp [Ne.symm rD])
      walk_at "r"
      intro H7 k7 h7
      exact Many.next stays_M R4 nD k5 hmm hv ha k6 R6 hv6 k7 h7
    · rintro D H5 nD ⟨us, rm, q5, k5, hD, R5, hmm, hv⟩
      have hus : us.length ≤ 1000000 := by rw [Many.len (C := A.C_Reader) hmm hv]; omega
      simp only [Int.toNat_natCast] at hmm
      rw [← e3] at hmm
      have e4 : pdd ds p = pdd3 ds m rm q5 := by rw [e2]; unfold pdd2; rw [hmm]; rfl
      clear e2 e3
      have k25 := k24.trans k5
      walk_at "r"
      intro t H6 nt k6 ht
      have R6 := R5.keep k6 (by simp) (by simp)
      have hv6 : vMs H6 rm us := vMs.keep hv k6
      have k26 : Keep [r] H H6 := k25.trans k6.any
      clear hv k5 k6 k24 k25 R4 R5 hD nD
      have hr_q5 := R6.1
      have hlk_q5 : (rdF d q5).lookup ("read_choice" : Str) = none := lkn (by decide +kernel) (by decide +kernel)
      walk_at "r"
      refine s_cut (fun σ' H' => ∃ (bh : Option (Nat × Nat)) (q6 : Nat) (bv : V) (v3 : Option V), σ' = [some (.ref r), some (.str (tx m)), some (.ref t), v3, some bv, none] ∧ Keep [r] H6 H' ∧ RdAt A.C_Reader H' r dx d ds q6 ∧ vB H' bh bv ∧ pbh ds q5 = some (bh, q6)) ?_ ?_
      · walk_at "r"
        refine ⟨r, dx, d, ds, q5, rfl, R6, fun b q6 hb H7 k7 R7 => ?_, fun hb H7 k7 => q2 (by rw [e4]; unfold pdd3 pbh; rw [hb]; rfl) H7 (k26.trans k7)⟩
        walk_at "r"
        refine ite_dec (fun h1 => ?_) (fun h1 => ?_)
        · have e5 := pbh_1 hb h1
          have hr_q6 := R7.1
          have hlk_q6 : (rdF d q6).lookup ("read_mark" : Str) = none := lkn (by decide +kernel) (by decide +kernel)
          walk_at "r"
          refine ⟨r, dx, d, ds, q6, rfl, R7, hl, fun mk q7 hk v H8 k8 R8 hv => ?_, fun hk H8 k8 => q2 (by rw [e4]; unfold pdd3; rw [e5, hk]; rfl) H8 (k26.trans (k7.trans k8))⟩
          walk_at "r"
          exact ⟨some mk, q7, v, _, rfl, k7.trans k8, R8, hv, by rw [e5, hk]; rfl⟩
        · walk_at "r"
          exact ⟨none, q6, .non, _, rfl, k7, R7, rfl, pbh_0 hb h1⟩
      · rintro σ' H7 ⟨bh, q6, bv, v3, rfl, k7, R7, hB, hb⟩
        have e5 : pdd ds p = pdd4 ds m rm bh q6 := by rw [e4]; unfold pdd3; rw [hb]; rfl
        clear e4
        have hr_q6 := R7.1
        have hlk_q6 : (rdF d q6).lookup ("read_number" : Str) = none := lkn (by decide +kernel) (by decide +kernel)
        walk_at "r"
        refine ⟨r, dx, d, ds, q6, rfl, R7, hl, fun n q7 hn v H8 k8 R8 hv => ?_, fun hn H8 k8 => q2 (by rw [e5]; unfold pdd4; rw [hn]; rfl) H8 (k26.trans (k7.trans k8))⟩
        cases hv
        have e6 : pdd ds p = pdd5 ds m rm bh n q7 := by rw [e5]; unfold pdd4; rw [hn]; rfl
        clear e5
        have hr_q7 := R8.1
        have hlk_q7 : (rdF d q7).lookup ("read_string" : Str) = none := lkn (by decide +kernel) (by decide +kernel)
        walk_at "r"
        refine ⟨r, dx, d, ds, q7, rfl, R8, hl, fun tt q8 ht2 v H9 k9 R9 hv => ?_, fun ht2 H9 k9 => q2 (by rw [e6]; unfold pdd5; rw [ht2]; rfl) H9 (k26.trans (k7.trans (k8.trans k9)))⟩
        cases hv
        walk_at "r"
        intro a H10 na k10 ha
        walk_at "r"
        have k710 := k7.trans (k8.trans (k9.trans k10.any))
        exact q1 (.chg m rm bh n tt) q8 (by rw [e6]; unfold pdd5; rw [ht2]; rfl) _ H10 (k26.trans k710) (R9.keep k10 (by simp) (by simp)) ⟨a, t, us, bv, rfl, ha, k710.2 _ _ ht, vMs.keep hv6 k710, vB.keep hB (k8.trans (k9.trans k10.any))⟩
theorem ok_Reader_read_triple (e : Env K mg A) : FnOk P w K mg base (L2.CX P w) 6 A.f_Reader_read_triple A.d_Reader_read_triple ["self"] (spR A ptr vT) := by
  have G_Reader_read_number := ok_Reader_read_number (P := P) (w := w) (base := base) e
  have G_Reader_read_deed := ok_Reader_read_deed (P := P) (w := w) (base := base) e
  refine e.F_Reader_read_triple.okX sc_Reader_read_triple (fun vs H Q E h => ?_) (fun cdv AA outer s H vs Q E hr h => ?_)
  · obtain ⟨r, dx, d, ds, p, rfl, _⟩ := h
    rfl
  · obtain ⟨r, dx, d, ds, p, rfl, hR, hl, q1, q2⟩ := h
    refine ⟨_, (pss_cons (ps_set (i := 1) sc_Reader_read_triple.nd rfl (Or.inl rfl) (pe_meth0 (pv 0) e.c_Reader e.h_Reader_read_number G_Reader_read_number (hr.mono (by omega)) e.b_Reader_read_number .nil (passes_call (takes_of rfl rfl rfl rfl) (fun _ _ _ _ h => h))))
    (pss_cons (ps_set (i := 2) sc_Reader_read_triple.nd rfl (Or.inl rfl) (pe_meth0 (pv 0) e.c_Reader e.h_Reader_read_number G_Reader_read_number (hr.mono (by omega)) e.b_Reader_read_number .nil (passes_call (takes_of rfl rfl rfl rfl) (fun _ _ _ _ h => h))))
    (pss_one (ps_ret (pe_tup (pa_cons (pv 1) (pa_cons (pv 2) (pa_cons (pe_meth0 (pv 0) e.c_Reader e.h_Reader_read_deed G_Reader_read_deed (hr.mono (by omega)) e.b_Reader_read_deed .nil (passes_call (takes_of rfl rfl rfl rfl) (fun _ _ _ _ h => h))) pa_nil)))))))), ?_⟩
    refine enter (st_Reader_read_triple _) ?_
    walk_at "i"
    have hr1 := hR.1
    have hlk_p : (rdF d p).lookup ("read_number" : Str) = none := lkn (by decide +kernel) (by decide +kernel)
    walk_at "r"
    refine ⟨r, dx, d, ds, p, rfl, hR, hl, fun n q hn v H2 k2 R2 hv => ?_, fun hn H2 k2 => q2 (by unfold ptr; rw [hn]; rfl) H2 k2⟩
    cases hv
    have hr_q := R2.1
    have hlk_q : (rdF d q).lookup ("read_number" : Str) = none := lkn (by decide +kernel) (by decide +kernel)
    walk_at "r"
    refine ⟨r, dx, d, ds, q, rfl, R2, hl, fun m q3 hm v H3 k3 R3 hv => ?_, fun hm H3 k3 => q2 (by unfold ptr; rw [hn]; simp only [Option.bind_some]; rw [hm]; rfl) H3 (k2.trans k3)⟩
    cases hv
    have hr_q3 := R3.1
    have hlk_q3 : (rdF d q3).lookup ("read_deed" : Str) = none := lkn (by decide +kernel) (by decide +kernel)
    walk_at "r"
    refine ⟨r, dx, d, ds, q3, rfl, R3, hl, fun dd q4 hd v H4 k4 R4 hv => ?_, fun hd H4 k4 => q2 (by unfold ptr; rw [hn]; simp only [Option.bind_some]; rw [hm]; simp only [Option.bind_some]; rw [hd]; rfl) H4 (k2.trans (k3.trans k4))⟩
    walk_at "r"
    intro t H5 nt k5 ht
    walk_at "r"
    exact q1 ⟨n, m, dd⟩ q4 (by unfold ptr; rw [hn]; simp only [Option.bind_some]; rw [hm]; simp only [Option.bind_some]; rw [hd]; rfl) _ H5 (k2.trans (k3.trans (k4.trans k5.any))) (R4.keep k5 (by simp) (by simp)) ⟨t, v, rfl, ht, vD.keep hv k5⟩
theorem ok_Reader_read_triples (e : Env K mg A) : FnOk P w K mg base (L2.CX P w) 7 A.f_Reader_read_triples A.d_Reader_read_triples ["self"] (spR A ptrs vTl) := by
  have G_Reader_read_count := ok_Reader_read_count (P := P) (w := w) (base := base) e
  have G_Reader_read_triple := ok_Reader_read_triple (P := P) (w := w) (base := base) e
  refine e.F_Reader_read_triples.okX sc_Reader_read_triples (fun vs H Q E h => ?_) (fun cdv AA outer s H vs Q E hr h => ?_)
  · obtain ⟨r, dx, d, ds, p, rfl, _⟩ := h
    rfl
  · obtain ⟨r, dx, d, ds, p, rfl, hR, hl, q1, q2⟩ := h
    refine ⟨_, (pss_one (ps_ret (pe_lcX (own := [("_", 1)]) rfl rfl (takes_of rfl rfl rfl rfl) (by rfl) sc_Reader_read_triples.nd (pi_range1 rfl e.n_range (pa_cons (pe_meth0 (pv 0) e.c_Reader e.h_Reader_read_count G_Reader_read_count (hr.mono (by omega)) e.b_Reader_read_count .nil (passes_call (takes_of rfl rfl rfl rfl) (fun _ _ _ _ h => h))) pa_nil)) (blkOk_by (own := [("_", 1)]) (N := nm_Reader_read_triples) (sc := defScope s_Reader_read_triples) (by decide +kernel)) (fun _ _ _ _ _ => (pg_name (i := 1) sc_Reader_read_triples.nd rfl (Or.inl rfl))) (fun _ _ _ _ _ => pts_nil) (fun _ _ _ _ _ xe tkx => (pe_meth0 (pv 0) e.c_Reader e.h_Reader_read_triple G_Reader_read_triple (hr.mono (by omega)) e.b_Reader_read_triple .nil (passes_call tkx (fun _ _ _ _ h => h))))))), ?_⟩
    refine enter (st_Reader_read_triples _) ?_
    walk_at "i"
    have hr1 := hR.1
    have hlk_p : (rdF d p).lookup ("read_count" : Str) = none := lkn (by decide +kernel) (by decide +kernel)
    walk_at "r"
    refine ⟨r, dx, d, ds, p, rfl, hR, hl, fun c q hc v H2 k2 R2 hv => ?_, fun hc H2 k2 => q2 (by unfold ptrs plist; rw [hc]; rfl) H2 k2⟩
    cases hv
    have hcl := (pcnt_le hc).1
    have e1 : ptrs ds p = pmany (ptr ds) c q := by unfold ptrs plist; rw [hc]; rfl
    walk_at "r"
    walk_at "i"
    refine lcR1 (by omega) (by omega) (fun D i H' => Many A.C_Reader ptr vT H2 r dx d ds q D i H') (fun D H3 nD k3 hD => Many.start R2 k3 hD) ?_ ?_
    · rintro D i H3 nD hi ⟨us, l, q', k3, hD, R3, hm, hv⟩
      have hr3 := R3.1
      have hul := Many.len (C := A.C_Reader) hm hv
      have rD := ne_of_none R2.1 nD
      walk_at "i"
      have hlk : (rdF d q').lookup ("read_triple" : Str) = none := lkn (by decide +kernel) (by decide +kernel)
      walk_at "r"
      refine ⟨r, dx, d, ds, q', rfl, R3, hl, fun a q2' ha v H4 k4 R4 hv4 => ?_, fun ha H4 k4 => q2 (by rw [e1]; exact pmany_stop (ptr ds) hm ha (by omega)) H4 (k2.trans (k3.trans k4))⟩
      have hD4 := k4.get hD (by simp [Ne.symm rD])
      walk_at "r"
      intro H5 k5 h5
      exact Many.next stays_T R2 nD k3 hm hv ha k4 R4 hv4 k5 h5
    · rintro D H3 nD ⟨us, l, q', k3, hD, R3, hm, hv⟩
      walk_at "r"
      simp only [Int.toNat_natCast] at hm
      exact q1 l q' (by rw [e1]; exact hm) _ H3 (k2.trans k3) R3 ⟨D, us, rfl, hD, hv⟩
end My

end
section
set_option maxHeartbeats 4000000
local macro_rules | `(tactic| walk_at "k") => `(tactic| first
  | assumption
  | exact W.Keep.trans (by assumption) (by assumption)
  | exact And.intro (by grind [W.Keep, W.Kp]) (by grind [W.Keep, W.Kt])
  | grind [W.Keep, W.Kp])
local macro_rules | `(tactic| walk_at "f") => `(tactic| first
  | assumption
  | exact L2.SqL.of (by assumption)
  | exact L2.SqT.of (by assumption)
  | exact L2.SqL.of L2.upd_same
  | exact L2.SqT.of L2.upd_same
  | exact L2.upd_same
  | exact W.carryL (by assumption) (by assumption)
  | exact W.carryL (by assumption) (by walk_at "k")
  | exact W.carryT (by assumption) (by walk_at "k")
  | exact W.carry (by assumption) (by grind [W.Keep, W.Kp])
  | exact L2.SqL.of (W.carry (by assumption) (by grind [W.Keep, W.Kp]))
  | exact L2.SqT.of (W.carry (by assumption) (by grind [W.Keep, W.Kp])))
local macro_rules | `(tactic| walk_at "a") => `(tactic| first
  | assumption
  | rfl)
local macro_rules | `(tactic| walk_at "n") => `(tactic| first
  | assumption
  | exact Nat.zero_le _
  | decide
  | (simp only [List.length_cons, List.length_nil]; decide)
  | omega
  | (simp only [PySem.sizeLine_eq]; omega)
  | (simp only [List.length_map, List.length_append, List.length_cons, List.length_nil, PySem.sizeLine_eq]; omega)
  | (simp only [List.length_map, List.length_append, List.length_cons, List.length_nil, List.length_take, List.length_drop, PySem.sizeLine_eq]; omega)
  | (simp only [List.length_map, List.length_append, List.length_cons, List.length_nil, PySem.sizeLine_eq] at *; omega))
local macro_rules | `(tactic| walk_at "c") => `(tactic| first
  | assumption
  | decide
  | exact And.intro (by decide) (by decide)
  | exact Or.inr (And.intro (by decide) (by decide))
  | exact Or.inl (And.intro (by decide) (by decide))
  | exact And.intro (by decide) (And.intro (by decide) (by decide))
  | exact (show (0 : Int) < _ by decide)
  | exact And.intro (by omega) (by omega)
  | exact Or.inl (And.intro (by omega) (by omega))
  | exact Or.inr (And.intro (by omega) (by omega))
  | exact (show (0 : Int) < _ by omega))
local macro_rules | `(tactic| walk_at "v") => `(tactic| with_reducible first
  | refine W.v0 ?_ | refine W.v1 ?_ | refine W.v2 ?_ | refine W.v3 ?_ | refine W.v4 ?_ | refine W.v5 ?_ | refine W.v6 ?_ | refine W.v7 ?_ | refine W.v8 ?_
  | refine W.v9 ?_ | refine W.v10 ?_ | refine W.v11 ?_ | refine W.v12 ?_ | refine W.v13 ?_ | refine W.v14 ?_ | refine W.v15 ?_ | refine W.v16 ?_ | refine W.v17 ?_
  | refine W.g0 ?_ | refine W.g1 ?_ | refine W.g2 ?_ | refine W.g3 ?_ | refine W.g4 ?_ | refine W.g5 ?_ | refine W.g6 ?_ | refine W.g7 ?_ | refine W.g8 ?_
  | refine W.g9 ?_ | refine W.g10 ?_ | refine W.g11 ?_ | refine W.g12 ?_ | refine W.g13 ?_ | refine W.g14 ?_ | refine W.g15 ?_)
local macro_rules | `(tactic| walk_at "e") => `(tactic| with_reducible first
  | refine W.e_c ?_ | refine W.e_op ?_ | refine W.s_seq ?_ | refine W.s_asg ?_ | refine W.e_CB ?_ | refine W.a_cons ?_ | refine W.a_nil ?_ | refine W.e_call ?_
  | refine W.t_test ?_ | refine W.w_B ?_ | refine W.s_if ?_ | refine W.s_ret ?_ | refine W.s_drop ?_ | refine W.e_un ?_ | refine W.e_fld ?_ | refine W.s_fld ?_
  | refine W.e_meth ?_ | refine W.e_if ?_ | refine W.e_lst ?_ | refine W.e_tup ?_ | refine W.e_sl ?_ | refine W.o_none ?_ | refine W.o_some ?_ | refine W.w_part ?_
  | refine W.e_bm ?_ | refine W.e_bm0 ?_ | refine W.t_B ?_ | refine W.t_and ?_ | refine W.t_or ?_ | refine W.t_not ?_ | refine W.e_andV ?_ | refine W.e_orV ?_ | refine W.e_notV ?_ | refine W.w_BV ?_ | refine W.e_chain ?_
  | refine W.s_aug ?_ | refine W.s_augS ?_ | refine W.s_next ?_ | refine W.s_brk ?_ | refine W.s_cont ?_ | refine W.s_retN ?_ | refine W.s_fa ?_ | refine W.e_make ?_ | refine W.w_make ?_
  | refine W.w_I0 ?_ | refine W.w_U ?_ | refine W.w_aug ?_ | refine W.w_eqI ?_ | refine W.w_neI ?_ | refine W.w_eqS ?_ | refine W.w_neS ?_ | refine W.w_eqB ?_ | refine W.w_neB ?_
  | refine W.w_int ?_ | refine W.w_intB ?_ | refine W.w_min ?_ | refine W.w_max ?_ | refine W.w_isN ?_ | refine W.w_isI ?_ | refine W.w_isS ?_ | refine W.w_isB ?_ | refine W.w_isR ?_
  | refine W.w_notN ?_ | refine W.w_notI ?_ | refine W.w_notR ?_ | refine W.w_notS ?_ | refine W.w_eqNI ?_ | refine W.w_neNI ?_ | refine W.w_eqN ?_ | refine W.w_neN ?_
  | refine W.s_forL ?_ | refine W.s_forT ?_ | refine W.s_forS ?_ | refine W.s_forR1 ?_ | refine W.s_forR2 ?_ | refine W.s_forR3 ?_ | refine W.s_forZ ?_ | refine W.s_forE ?_
  | refine W.e_lcL ?_ | refine W.e_lcT ?_ | refine W.w_ord ?_ | refine W.e_lcR1 ?_ | refine W.e_lcR2 ?_ | refine W.e_lcZ ?_ | refine W.e_lcS ?_ | refine W.t_yes ?_ | refine W.w_gcons ?_ | refine W.w_gnil ?_ | refine W.s_par ?_ | refine W.w_par ?_ | refine W.g_sub ?_ | refine W.e_m1 ?_ | refine W.w_strR ?_ | refine W.w_rAdd ?_ | refine W.w_rSub ?_ | refine W.s_raise ?_ | refine W.s_try ?_ | refine W.e_methS ?_ | refine W.e_callS ?_)
local macro_rules | `(tactic| walk_at "w") => `(tactic| first
  | ((with_reducible refine' W.w_I ?wh ?wq); (case wh => walk_at "c"))
  | ((with_reducible refine' W.w_ixL (n := 0) ?wh ?we ?wq); (case wh => walk_at "f"); (case we => walk_at "a"))
  | ((with_reducible refine' W.w_ixT (n := 0) ?wh ?we ?wq); (case wh => walk_at "f"); (case we => walk_at "a"))
  | ((with_reducible refine' W.w_lenL ?wh ?wq); (case wh => walk_at "f"))
  | ((with_reducible refine' W.w_lenT ?wh ?wq); (case wh => walk_at "f"))
  | ((with_reducible refine' W.w_lenS ?wh ?wq); (case wh => walk_at "n"))
  | ((with_reducible refine' W.w_app ?wh ?we ?wq); (case wh => walk_at "f"); (case we => walk_at "n"))
  | ((with_reducible refine' W.w_meth ?wh ?we ?wq); (case wh => walk_at "f"); (case we => first | assumption | rfl))
  | ((with_reducible refine' W.w_ixLTl ?wh ?we ?wq); (case wh => walk_at "f"); (case we => walk_at "a"))
  | ((with_reducible refine' W.w_ixLTt ?wh ?we ?wq); (case wh => walk_at "f"); (case we => walk_at "a"))
  | ((with_reducible refine' W.w_addS ?wh ?wq); (case wh => walk_at "n"))
  | ((with_reducible refine' W.w_set ?wh ?we ?wq); (case wh => walk_at "f"); (case we => walk_at "a"))
  | ((with_reducible refine' W.w_tup ?wh ?we ?wq); (case wh => walk_at "f"); (case we => first | assumption | rfl))
  | ((with_reducible refine' W.w_slS ?wh ?wq); (case wh => walk_at "n"))
  | ((with_reducible refine' W.w_rApp ?wh ?we ?wq); (case wh => walk_at "f"); (case we => walk_at "n"))
  | ((with_reducible refine' W.w_newL ?wh ?wq); (case wh => walk_at "n"))
  | ((with_reducible refine' W.w_newT ?wh ?wq); (case wh => walk_at "n"))
  | ((with_reducible refine' W.w_listL ?wh ?wq); (case wh => walk_at "f"))
  | ((with_reducible refine' W.w_tupL ?wh ?wq); (case wh => walk_at "f"))
  | ((with_reducible refine' W.w_slL ?wh ?wq); (case wh => walk_at "f"))
  | ((with_reducible refine' W.w_cat ?wh ?wf ?we ?wq); (case wh => walk_at "f"); (case wf => walk_at "f"); (case we => walk_at "n"))
  | ((with_reducible refine' W.w_catT ?wh ?wf ?wx ?wy ?we ?wq); (case wh => walk_at "f"); (case wf => walk_at "f"); (case wx => exact List.cons_ne_nil _ _); (case wy => exact List.cons_ne_nil _ _); (case we => walk_at "n"))
  | ((with_reducible refine' W.w_ext ?wh ?wf ?we ?wq); (case wh => walk_at "f"); (case wf => walk_at "f"); (case we => walk_at "n"))
  | ((with_reducible refine' W.w_recv ?wh ?wq); (case wh => walk_at "f"))
  | ((with_reducible refine' W.w_isi1 ?wh ?we ?wq); (case wh => assumption); (case we => decide +kernel))
  | ((with_reducible refine' W.w_isi0 ?wh ?we ?wq); (case wh => assumption); (case we => decide +kernel))
  | ((with_reducible refine' W.w_isiT10 ?wh ?wf ?we ?wg ?wq); (case wh => assumption); (case wf => walk_at "f"); (case we => decide +kernel); (case wg => decide +kernel))
  | ((with_reducible refine' W.w_isiT01 ?wh ?wf ?we ?wg ?wq); (case wh => assumption); (case wf => walk_at "f"); (case we => decide +kernel); (case wg => decide +kernel))
  | ((with_reducible refine' W.w_isiT00 ?wh ?wf ?we ?wg ?wq); (case wh => assumption); (case wf => walk_at "f"); (case we => decide +kernel); (case wg => decide +kernel))
  | ((with_reducible refine' W.w_ins ?wh ?we ?wf ?wq); (case wh => walk_at "f"); (case we => walk_at "n"); (case wf => walk_at "c"))
  | ((with_reducible refine' W.w_unl ?wh ?we ?wq); (case wh => walk_at "f"); (case we => first | assumption | rfl))
  | ((with_reducible refine' W.ite_T ?_))
  | ((with_reducible refine' W.ite_F ?_))
  | ((with_reducible refine' W.ite_nT ?_))
  | ((with_reducible refine' W.ite_nF ?_))
  | ((with_reducible refine' W.ite_self ?_))
  | ((with_reducible refine' W.ite_nself ?_))
  | ((with_reducible refine' W.ite_tf ?_))
  | ((with_reducible refine' W.ite_ft ?_))
  | ((with_reducible refine' W.ite_ntf ?_))
  | ((with_reducible refine' W.ite_nft ?_))
  | ((with_reducible refine' And.intro ?wl ?wq); (case wl => rfl)))
local macro_rules | `(tactic| walk_at "i") => `(tactic| try (dsimp only [L2.cxOf, L2.wipe, List.map, List.set]))
local macro_rules | `(tactic| walk_at "s") => `(tactic| first | walk_at "v" | walk_at "e" | walk_at "w")
local macro_rules | `(tactic| walk_at "r") => `(tactic| repeat walk_at "s")

namespace My
open PySem L2 W
variable {P : Program} {w : World} {K : PySem.W.Frag} {mg : Str → Option Value} {base : Heap} {A : Adr}
/-- lists of ints on a heap -/
def Lsts (H : Hp) (vs : List V) (rs : List (List Int)) : Prop := Paired (fun v x => ∃ t, v = V.ref t ∧ H t = some (.lst (x.map V.int))) vs rs
theorem Lsts.mono {H H' : Hp} {vs : List V} {rs : List (List Int)} (h : Lsts H vs rs) (k : Keep [] H H') : Lsts H' vs rs := Paired.mapP h fun _ _ ⟨t, e, q⟩ => ⟨t, e, k.get q (by simp)⟩
theorem Lsts.mut {H H' : Hp} {p : Addr} : ∀ {vs : List V} {rs : List (List Int)}, H p = some (.lst vs) → Keep [p] H H' → Lsts H vs rs → Lsts H' vs rs := by
  intro vs rs hp k h
  have n : vs ≠ [] → ∀ x : List Int, vs ≠ x.map V.int := by
    intro hv x e
    unfold Lsts at h
    cases h with
    | nil => exact hv rfl
    | cons hd _ =>
      obtain ⟨t, rfl, _⟩ := hd
      cases x with
      | nil => cases e
      | cons y r => cases e
  by_cases hv : vs = []
  · subst hv
    unfold Lsts at h ⊢
    cases h
    exact .nil
  · exact Paired.mapP h fun _ _ ⟨t, e, q⟩ => ⟨t, e, k.get q (by
      intro z; simp at z; subst z; rw [hp] at q; cases q; exact n hv _ rfl)⟩
theorem Lsts.len {H : Hp} {vs : List V} {rs : List (List Int)} (h : Lsts H vs rs) : vs.length = rs.length := Paired.length h
/-- numbers written -/
def sp_wn (K : PySem.W.Frag) : Sp := fun vs H Q _ => ∃ n : Nat, vs = [.int (n : Int)] ∧ n < 128 ^ 60 ∧ ∀ p H', H p = none → Keep [] H H' → H' p = some (.lst ((wn n).map V.int)) → Q (.ref p) H'
theorem ok_write_number (e : Env K mg A) : FnOk P w K mg base CX0 1 A.f_write_number A.d_write_number ["number"] (sp_wn K) := by
  refine e.F_write_number.ok sc_write_number (fun vs H Q E h => ?_) (fun cdv AA outer s H vs Q E hr h => ?_)
  · obtain ⟨n, rfl, _⟩ := h
    rfl
  · obtain ⟨n, rfl, hn, q⟩ := h
    refine ⟨_, (pss_cons (ps_set (i := 1) sc_write_number.nd rfl (Or.inl rfl) (pe_lst pa_nil))
    (pss_cons (ps_while PassesOwn.never (pt_cmpR op_ge (pv 0) pe_int (nomark _)) (pss_cons (ps_expr (pe_bmK (K := K) PySem.F.plainAttrs_list PySem.F.slot_list_append PySem.F.type_list_append mt_append (pv 1) (pa_cons (pe_op op_add (pe_op op_mod (pv 0) pe_int) pe_int) pa_nil)))
    (pss_one (ps_set (i := 0) sc_write_number.nd rfl (Or.inl rfl) (pe_op op_fdiv (pv 0) pe_int)))))
    (pss_one (ps_ret (pe_op op_cat (pv 1) (pe_lst (pa_cons (pv 0) pa_nil))))))), ?_⟩
    refine enter (st_write_number _) ?_
    walk_at "i"
    walk_at "r"
    intro p H1 np k1 hp
    walk_at "r"
    have hlen := wn_len 59 n hn
    refine while_ (fun m σ H' => ∃ (xs : List Int), σ = [some (.int (m : Int)), some (.ref p)] ∧ Keep [] H H' ∧ H' p = some (.lst (xs.map V.int)) ∧ wn n = xs ++ wn m) n ⟨[], rfl, k1, hp, rfl⟩ ?_
    rintro m σ H2 ⟨xs, rfl, k2, h2, hw⟩
    have hxl : xs.length ≤ 60 := by have := congrArg List.length hw; rw [List.length_append] at this; omega
    walk_at "r"
    refine ite_dec (fun hm => ?_) (fun hm => ?_)
    · refine turn ?_
      walk_at "r"
      intro H3 k3 h3
      walk_at "r"
      refine ⟨m / 128, by omega, xs ++ [((m % 128 + 128 : Nat) : Int)], ?_, k2.mut np k3, ?_, ?_⟩
      · rw [show ((m / 128 : Nat) : Int) = (m : Int) / 128 by omega]
      · rw [h3, List.map_append, show ((m % 128 + 128 : Nat) : Int) = (m : Int) % 128 + 128 by omega]; rfl
      · rw [hw, wn_hi (by omega)]; simp
    · walk_at "r"
      intro a H3 na k3 ha
      walk_at "r"
      have hp3 := k3.get h2 (by simp)
      intro c H4 nc k4 hc
      walk_at "r"
      refine q c H4 ?_ (k2.trans (k3.trans k4)) ?_
      · exact (k2.trans k3).free nc (by simp)
      · rw [hc, hw, wn_lo (by omega), List.map_append]; rfl
/-- lists written -/
def sp_wl (K : PySem.W.Frag) : Sp := fun vs H Q _ => ∃ (a : Addr) (us : List V) (xs : List (List Int)), vs = [.ref a] ∧ H a = some (.lst us) ∧ Lsts H us xs ∧ xs.length ≤ 10000000 ∧ (wl xs).length ≤ 10000000 ∧
  ∀ p H', H p = none → Keep [] H H' → H' p = some (.lst ((wl xs).map V.int)) → Q (.ref p) H'
theorem lt60' {n : Nat} (h : n ≤ 10000000) : n < 128 ^ 60 := Nat.lt_of_le_of_lt h (by decide)
theorem take_flat_len (xs : List (List Int)) (i : Nat) : (xs.take i).flatten.length ≤ xs.flatten.length := by
  conv => rhs; rw [← List.take_append_drop i xs]
  rw [List.flatten_append, List.length_append]; omega
theorem ok_write_list (e : Env K mg A) : FnOk P w K mg base CX0 2 A.f_write_list A.d_write_list ["items"] (sp_wl K) := by
  have G_write_number := ok_write_number (P := P) (w := w) (base := base) e
  refine e.F_write_list.ok sc_write_list (fun vs H Q E h => ?_) (fun cdv AA outer s H vs Q E hr h => ?_)
  · obtain ⟨a, us, xs, rfl, _⟩ := h
    rfl
  · obtain ⟨a, us, xs, rfl, ha, hL, hxl, hwl, q⟩ := h
    have hus := hL.len
    refine ⟨_, (pss_cons (ps_set (i := 1) sc_write_list.nd rfl (Or.inl rfl) (pe_call G_write_number (hr.mono (by omega)) (by rfl) e.m_write_number e.k_write_number e.b_write_number .nil pass0 (pa_cons (pe_callB (call_lenLK (K := K)) (by rfl) e.n_len (by decide +kernel) (pa_cons (pv 0) pa_nil)) pa_nil)))
    (pss_cons (ps_for PassesOwn.never rfl (pi_listK (K := K) (pv 0)) (pg_name (i := 2) sc_write_list.nd rfl (Or.inl rfl)) (pss_one (ps_expr (pe_bmK (K := K) PySem.F.plainAttrs_list PySem.F.slot_list_extend PySem.F.type_list_extend mt_extend (pv 1) (pa_cons (pv 2) pa_nil)))))
    (pss_one (ps_ret (pv 1))))), ?_⟩
    refine enter (st_write_list _) ?_
    walk_at "i"
    walk_at "r"
    rw [hus]
    refine ⟨xs.length, rfl, lt60' hxl, fun p H1 np k1 hp => ?_⟩
    walk_at "r"
    have ha1 := k1.get ha (by simp)
    have nap := ne_of_none ha np
    refine forL (SqL.of ha1) (fun i σ H' => ∃ v, σ = [some (.ref a), some (.ref p), v] ∧ Keep [] H H' ∧ H' p = some (.lst ((wn xs.length ++ (xs.take i).flatten).map V.int))) ⟨_, rfl, k1, by simpa using hp⟩ (fun i σ H' _ h => ?_) ?_ ?_
    · obtain ⟨_, _, k, _⟩ := h
      exact SqL.of (k.get ha (by simp))
    · rintro i x σ H' hx ⟨v, rfl, k2, hp2⟩
      obtain ⟨y, hy, t, rfl, ht⟩ := pd_get hL hx
      have ht2 := k2.get ht (by simp)
      have hsz : (wn xs.length ++ (xs.take i).flatten).length + y.length ≤ 10000000 := by
        have h1 := take_flat_len xs (i + 1)
        rw [List.take_add_one, hy] at h1
        simp only [Option.toList, List.flatten_append, List.flatten_cons, List.flatten_nil, List.append_nil, List.length_append] at h1
        unfold wl at hwl
        simp only [List.length_append] at hwl ⊢
        omega
      walk_at "r"
      intro H3 k3 h3
      walk_at "r"
      refine ⟨_, rfl, k2.mut np k3, ?_⟩
      rw [h3, List.take_add_one, hy]
      simp
    · rintro σ H' ⟨v, rfl, k2, hp2⟩
      walk_at "r"
      rw [hus, List.take_length] at hp2
      exact q p H' np k2 hp2
def sp_ws (K : PySem.W.Frag) : Sp := fun vs H Q _ => ∃ s : List Nat, vs = [.str (tx s)] ∧ oks s ∧ (ws s).length ≤ 10000000 ∧ ∀ p H', H p = none → Keep [] H H' → H' p = some (.lst ((ws s).map V.int)) → Q (.ref p) H'
theorem okch_lt {c : Nat} (h : okch c = true) : c < 127 := by unfold okch at h; simp at h; omega
theorem tx_get {s : List Nat} {i c : Nat} (h : (tx s).cps[i]? = some c) : s[i]? = some c := by simpa [tx] using h
theorem tx_size (s : List Nat) : (tx s).cps.size = s.length := by simp [tx]
theorem ok_write_string (e : Env K mg A) : FnOk P w K mg base CX0 3 A.f_write_string A.d_write_string ["text"] (sp_ws K) := by
  have G_write_number := ok_write_number (P := P) (w := w) (base := base) e
  have G_write_list := ok_write_list (P := P) (w := w) (base := base) e
  refine e.F_write_string.ok sc_write_string (fun vs H Q E h => ?_) (fun cdv AA outer s H vs Q E hr h => ?_)
  · obtain ⟨s, rfl, _⟩ := h
    rfl
  · obtain ⟨s, rfl, ho, hsz, q⟩ := h
    have hol := ho.2
    refine ⟨_, (pss_one (ps_ret (pe_call G_write_list (hr.mono (by omega)) (by rfl) e.m_write_list e.k_write_list e.b_write_list .nil pass0 (pa_cons (pe_lc (own := [("character", 1)]) (by rfl) sc_write_string.nd (pi_str (pv 0)) (blkOk_by (own := [("character", 1)]) (N := nm_write_string) (sc := defScope s_write_string) (by decide +kernel)) (fun _ _ _ _ _ => (pg_name (i := 1) sc_write_string.nd rfl (Or.inl rfl))) (fun _ _ _ _ _ => pts_nil) (fun _ _ _ _ _ => (pe_call G_write_number (hr.mono (by omega)) (by rfl) e.m_write_number e.k_write_number e.b_write_number .nil pass0 (pa_cons (pe_callB call_ordR (by rfl) e.n_ord (by decide +kernel) (pa_cons (pv 1) pa_nil)) pa_nil)))) pa_nil)))), ?_⟩
    refine enter (st_write_string _) ?_
    walk_at "i"
    walk_at "r"
    refine lcS (fun D i H' => Keep [] H H' ∧ ∃ us, H' D = some (.lst us) ∧ Lsts H' us ((s.take i).map wn)) (fun D H1 nD k1 hD => ⟨k1, [], hD, by rw [List.take_zero]; exact Paired.nil⟩) ?_ ?_
    · rintro D i c H1 nD hc ⟨k1, us, hD, hL⟩
      have hc := tx_get hc
      have hil : i < s.length := (List.getElem?_eq_some_iff.mp hc).1
      have hcl := okch_lt (ho.1 c (List.mem_of_getElem? hc))
      have hul := hL.len
      rw [List.length_map, List.length_take] at hul
      walk_at "i"
      walk_at "r"
      refine ⟨c, rfl, Nat.lt_trans hcl (by decide), fun p H2 np k2 hp => ?_⟩
      have hD2 := k2.get hD (by simp)
      have npD := ne_of_none hD np
      walk_at "r"
      intro H3 k3 h3
      refine ⟨(k1.trans k2).mut nD k3, us ++ [.ref p], h3, ?_⟩
      rw [List.take_add_one, hc, List.map_append]
      exact Paired.snoc (Lsts.mut hD2 k3 (hL.mono k2)) ⟨p, rfl, k3.get hp (by simp [Ne.symm npD])⟩
    · rintro D H1 nD ⟨k1, us, hD, hL⟩
      rw [tx_size, List.take_length] at hL
      walk_at "r"
      exact ⟨D, us, s.map wn, rfl, hD, hL, by rw [List.length_map]; omega, hsz, fun p H2 np k2 hp => q p H2 (k1.free np (by simp)) (k1.trans k2) hp⟩
def sp_wm (K : PySem.W.Frag) : Sp := fun vs H Q _ => ∃ (v : V) (m : Nat × Nat), vs = [v] ∧ vM H m v ∧ okm m ∧ ∀ p H', H p = none → Keep [] H H' → H' p = some (.lst ((wm m).map V.int)) → Q (.ref p) H'
theorem wn_le10 {n : Nat} (h : okn n) : (wn n).length ≤ 10 := wn_len 9 n (Nat.lt_of_lt_of_le h (by decide))
theorem wm_le {m : Nat × Nat} (h : okm m) : (wm m).length ≤ 20 := by have := wn_le10 h.1; have := wn_le10 h.2; unfold wm; rw [List.length_append]; omega
theorem ok_write_mark (e : Env K mg A) : FnOk P w K mg base CX0 2 A.f_write_mark A.d_write_mark ["mark"] (sp_wm K) := by
  have G_write_number := ok_write_number (P := P) (w := w) (base := base) e
  refine e.F_write_mark.ok sc_write_mark (fun vs H Q E h => ?_) (fun cdv AA outer s H vs Q E hr h => ?_)
  · obtain ⟨v, m, rfl, _⟩ := h
    rfl
  · obtain ⟨v, m, rfl, ⟨t, rfl, ht⟩, hm, q⟩ := h
    have l1 := wn_le10 hm.1
    have l2 := wn_le10 hm.2
    refine ⟨_, (pss_one (ps_ret (pe_op op_cat (pe_call G_write_number (hr.mono (by omega)) (by rfl) e.m_write_number e.k_write_number e.b_write_number .nil pass0 (pa_cons (pe_ix (ix_tupK (K := K)) (pv 0) pe_int (fun _ _ => rfl)) pa_nil)) (pe_call G_write_number (hr.mono (by omega)) (by rfl) e.m_write_number e.k_write_number e.b_write_number .nil pass0 (pa_cons (pe_ix (ix_tupK (K := K)) (pv 0) pe_int (fun _ _ => rfl)) pa_nil))))), ?_⟩
    refine enter (st_write_mark _) ?_
    walk_at "i"
    walk_at "r"
    refine ⟨m.1, rfl, hm.1.lt, fun a H1 na k1 ha => ?_⟩
    have ht1 := k1.get ht (by simp)
    walk_at "r"
    refine ⟨m.2, rfl, hm.2.lt, fun b H2 nb k2 hb => ?_⟩
    have ha2 := k2.get ha (by simp)
    walk_at "r"
    intro c H3 nc k3 hc
    exact q c H3 ((k1.trans k2).free nc (by simp)) (k1.trans (k2.trans k3)) (by rw [hc, ← List.map_append]; rfl)
def sp_wd (K : PySem.W.Frag) : Sp := fun vs H Q _ => ∃ (v : V) (d : Dd), vs = [v] ∧ vD H d v ∧ okd d ∧ (wd d).length ≤ 10000000 ∧ ∀ p H', H p = none → Keep [] H H' → H' p = some (.lst ((wd d).map V.int)) → Q (.ref p) H'
theorem ne_back : ¬ (("change" : Str) = "back") := by decide +kernel
theorem ok_write_deed (e : Env K mg A) : FnOk P w K mg base CX0 4 A.f_write_deed A.d_write_deed ["deed"] (sp_wd K) := by
  have G_write_number := ok_write_number (P := P) (w := w) (base := base) e
  have G_write_list := ok_write_list (P := P) (w := w) (base := base) e
  have G_write_string := ok_write_string (P := P) (w := w) (base := base) e
  have G_write_mark := ok_write_mark (P := P) (w := w) (base := base) e
  refine e.F_write_deed.ok sc_write_deed (fun vs H Q E h => ?_) (fun cdv AA outer s H vs Q E hr h => ?_)
  · obtain ⟨v, d, rfl, _⟩ := h
    rfl
  · obtain ⟨v, d, rfl, hd, ho, hsz, q⟩ := h
    refine ⟨_, (pss_cons (ps_if (pt_cmpR op_eq (pe_ix (ix_tupK (K := K)) (pv 0) pe_int (fun _ _ => rfl)) pe_str (nomark _)) (pss_one (ps_ret (pe_op op_cat (pe_lst (pa_cons pe_int pa_nil)) (pe_call G_write_number (hr.mono (by omega)) (by rfl) e.m_write_number e.k_write_number e.b_write_number .nil pass0 (pa_cons (pe_ix (ix_tupK (K := K)) (pv 0) pe_int (fun _ _ => rfl)) pa_nil))))) pss_nil)
    (pss_cons (ps_asg (pv 0) (pg_tupK (K := K) (n := 6) rfl (pgs_cons (pg_name (i := 1) sc_write_deed.nd rfl (Or.inl rfl)) (pgs_cons (pg_name (i := 2) sc_write_deed.nd rfl (Or.inl rfl)) (pgs_cons (pg_name (i := 3) sc_write_deed.nd rfl (Or.inl rfl)) (pgs_cons (pg_name (i := 4) sc_write_deed.nd rfl (Or.inl rfl)) (pgs_cons (pg_name (i := 5) sc_write_deed.nd rfl (Or.inl rfl)) (pgs_cons (pg_name (i := 6) sc_write_deed.nd rfl (Or.inl rfl)) pgs_nil))))))))
    (pss_cons (ps_set (i := 7) sc_write_deed.nd rfl (Or.inl rfl) (pe_op op_cat (pe_op op_cat (pe_lst (pa_cons pe_int pa_nil)) (pe_call G_write_string (hr.mono (by omega)) (by rfl) e.m_write_string e.k_write_string e.b_write_string .nil pass0 (pa_cons (pv 2) pa_nil))) (pe_call G_write_list (hr.mono (by omega)) (by rfl) e.m_write_list e.k_write_list e.b_write_list .nil pass0 (pa_cons (pe_lc (own := [("mark", 8)]) (by rfl) sc_write_deed.nd (pi_tupK (K := K) (pv 3)) (blkOk_by (own := [("mark", 8)]) (N := nm_write_deed) (sc := defScope s_write_deed) (by decide +kernel)) (fun _ _ _ _ _ => (pg_name (i := 8) sc_write_deed.nd rfl (Or.inl rfl))) (fun _ _ _ _ _ => pts_nil) (fun _ _ _ _ _ => (pe_call G_write_mark (hr.mono (by omega)) (by rfl) e.m_write_mark e.k_write_mark e.b_write_mark .nil pass0 (pa_cons (pv 8) pa_nil)))) pa_nil))))
    (Evl.pss_cut (ps_expr (pe_bmK (K := K) PySem.F.plainAttrs_list PySem.F.slot_list_extend PySem.F.type_list_extend mt_extend (pv 7) (pa_cons (pe_ifExp (pt_cmpR op_isNo (pv 4) pe_non (nomark _)) (pe_lst (pa_cons pe_int pa_nil)) (pe_op op_cat (pe_lst (pa_cons pe_int pa_nil)) (pe_call G_write_mark (hr.mono (by omega)) (by rfl) e.m_write_mark e.k_write_mark e.b_write_mark .nil pass0 (pa_cons (pv 4) pa_nil)))) pa_nil)))
    (pss_one (ps_ret (pe_op op_cat (pe_op op_cat (pv 7) (pe_call G_write_number (hr.mono (by omega)) (by rfl) e.m_write_number e.k_write_number e.b_write_number .nil pass0 (pa_cons (pv 5) pa_nil))) (pe_call G_write_string (hr.mono (by omega)) (by rfl) e.m_write_string e.k_write_string e.b_write_string .nil pass0 (pa_cons (pv 6) pa_nil))))))))), ?_⟩
    refine enter (st_write_deed _) ?_
    walk_at "i"
    cases d with
    | back n =>
      obtain ⟨t, rfl, ht⟩ := hd
      have l1 := wn_le10 ho
      walk_at "r"
      intro a H1 na k1 ha
      have ht1 := k1.get ht (by simp)
      walk_at "r"
      refine ⟨n, rfl, okn.lt ho, fun b H2 nb k2 hb => ?_⟩
      have ha2 := k2.get ha (by simp)
      walk_at "r"
      intro c H3 nc k3 hc
      walk_at "r"
      exact q c H3 ((k1.trans k2).free nc (by simp)) (k1.trans (k2.trans k3)) (by rw [hc]; rfl)
    | chg m rm bh n t =>
      obtain ⟨v, r, us, b, rfl, hv, hr0, hM, hB⟩ := hd
      obtain ⟨o1, o2, o3, o4, o5, o6⟩ := ho
      have hz : (ws m).length + (wl (rm.map wm)).length + (wbh bh).length + (wn n).length + (ws t).length + 1 ≤ 10000000 := by
        have e1 : (wd (.chg m rm bh n t)).length = (ws m).length + (wl (rm.map wm)).length + (wbh bh).length + (wn n).length + (ws t).length + 1 := by simp [wd]; omega
        omega
      walk_at "r"
      refine ite_dec (fun z => absurd z ne_back) (fun _ => ?_)
      walk_at "r"
      intro z H1 nz k1 hz0
      walk_at "r"
      refine ⟨m, rfl, o1, by omega, fun a1 H2 n1 k2 ha1 => ?_⟩
      have hz2 := k2.get hz0 (by simp)
      walk_at "r"
      intro a2 H3 n2 k3 ha2
      have k13 := k1.trans (k2.trans k3)
      have hr3 := k13.get hr0 (by simp)
      have hM3 := vMs.keep hM k13
      have hB3 := vB.keep hB k13
      clear k1 k2 k3 hz0 hz2 ha1 hr0 hv hM hB
      walk_at "r"
      refine lcT (SqT.of hr3) (fun D i H' => Keep [] H3 H' ∧ ∃ us, H' D = some (.lst us) ∧ Lsts H' us ((rm.take i).map wm)) (fun D H1 nD k1 hD => ⟨k1, [], hD, by rw [List.take_zero]; exact Paired.nil⟩) (fun D i H' _ h => SqT.of (h.1.get hr3 (by simp))) ?_ ?_
      · rintro D i x H4 nD hx ⟨k4, ls, hD, hL⟩
        obtain ⟨mm, hmm, hvm⟩ := pd_get hM3 hx
        have hil : i < rm.length := (List.getElem?_eq_some_iff.mp hmm).1
        have hok := o2 mm (List.mem_of_getElem? hmm)
        have hul := hL.len
        rw [List.length_map, List.length_take] at hul
        walk_at "i"
        walk_at "r"
        refine ⟨x, mm, rfl, vM.keep hvm k4, hok, fun p H5 np k5 hp => ?_⟩
        have hD5 := k5.get hD (by simp)
        have npD := ne_of_none hD np
        walk_at "r"
        intro H6 k6 h6
        refine ⟨(k4.trans k5).mut nD k6, ls ++ [.ref p], h6, ?_⟩
        rw [List.take_add_one, hmm, List.map_append]
        exact Paired.snoc (Lsts.mut hD5 k6 (hL.mono k5)) ⟨p, rfl, k6.get hp (by simp [Ne.symm npD])⟩
      · rintro D H4 nD ⟨k4, ls, hD, hL⟩
        rw [show us.length = rm.length from vMs.len hM3, List.take_length] at hL
        walk_at "r"
        refine ⟨D, ls, rm.map wm, rfl, hD, hL, by rw [List.length_map]; omega, by omega, fun a3 H5 n3 k5 ha3 => ?_⟩
        have ha5 := (k4.trans k5).get ha2 (by simp)
        walk_at "r"
        intro a4 H6 n4 k6 ha4
        have k16 : Keep [] H H6 := k13.trans (k4.trans (k5.trans k6))
        have na4 : H a4 = none := (k13.trans (k4.trans k5)).free n4 (by simp)
        have hB6 := vB.keep hB3 (k4.trans (k5.trans k6))
        have ha4' : H6 a4 = some (.lst (((0 : Int) :: (ws m ++ wl (rm.map wm))).map V.int)) := by rw [ha4]; simp
        clear ha4 k4 k5 k6 k13 hB3 hM3 hr3 ha2 ha3 ha5 hD hL n1 n2 n3 n4
        refine s_cut (fun σ' H' => σ' = [some (.ref v), some (.str (Str.ofString "change")), some (.str (tx m)), some (.ref r), some b, some (.int (n : Int)), some (.str (tx t)), some (.ref a4), none] ∧ Keep [] H H' ∧ H' a4 = some (.lst (((0 : Int) :: (ws m ++ wl (rm.map wm) ++ wbh bh)).map V.int))) ?_ ?_
        · walk_at "i"
          walk_at "r"
          cases bh with
          | none =>
            cases hB6
            walk_at "r"
            intro l H7 nl k7 hl
            have ha7 := k7.get ha4' (by simp)
            walk_at "r"
            intro H8 k8 h8
            walk_at "r"
            exact ⟨(k16.trans k7).mut na4 k8, by rw [h8]; simp [wbh]⟩
          | some mk =>
            have hB6 : vM H6 mk b := hB6
            have hB7 := hB6
            obtain ⟨tb, rfl, htb⟩ := hB7
            have hmk := o4 mk rfl
            have hml := wm_le hmk
            walk_at "r"
            intro l H7 nl k7 hl
            walk_at "r"
            refine ⟨.ref tb, mk, rfl, vM.keep hB6 k7, hmk, fun p H8 np k8 hp => ?_⟩
            have hl8 := k8.get hl (by simp)
            walk_at "r"
            intro c H9 nc k9 hc
            have k79 := k7.trans (k8.trans k9)
            have ha9 := k79.get ha4' (by simp)
            clear hl8 hl hp
            walk_at "r"
            intro H10 k10 h10
            walk_at "r"
            exact ⟨(k16.trans k79).mut na4 k10, by rw [h10]; simp [wbh]⟩
        · rintro σ' H7 ⟨rfl, k7, h7⟩
          have l5 := wn_le10 o5
          walk_at "r"
          refine ⟨n, rfl, o5.lt, fun p H8 np k8 hp => ?_⟩
          have h8 := k8.get h7 (by simp)
          walk_at "r"
          intro c H9 nc k9 hc
          walk_at "r"
          refine ⟨t, rfl, o6, by omega, fun p2 H10 np2 k10 hp2 => ?_⟩
          have hc10 := k10.get hc (by simp)
          clear h8 h7 hp hc
          walk_at "r"
          intro c2 H11 nc2 k11 hc2
          have k := k7.trans (k8.trans (k9.trans k10))
          exact q c2 H11 (k.free nc2 (by simp)) (k.trans k11) (by rw [hc2]; simp [wd])
/-- packets written -/
def sp_wts (K : PySem.W.Frag) (W : List Tri → List Int) : Sp := fun vs H Q _ => ∃ (a : Addr) (us : List V) (ts : List Tri), vs = [.ref a] ∧ H a = some (.lst us) ∧ vTs H ts us ∧ (∀ t ∈ ts, okt t) ∧ ts.length ≤ 1000 ∧ (W ts).length ≤ 10000000 ∧
  ∀ p H', H p = none → Keep [] H H' → H' p = some (.lst ((W ts).map V.int)) → Q (.ref p) H'
theorem mem_flat_len {xs : List (List Int)} {x : List Int} (h : x ∈ xs) : x.length ≤ xs.flatten.length := by
  induction xs with
  | nil => cases h
  | cons y r ih =>
    rw [List.flatten_cons, List.length_append]
    rcases List.mem_cons.mp h with rfl | h
    · omega
    · have := ih h; omega
theorem ok_write_triples (e : Env K mg A) : FnOk P w K mg base CX0 5 A.f_write_triples A.d_write_triples ["triples"] (sp_wts K wts) := by
  have G_write_number := ok_write_number (P := P) (w := w) (base := base) e
  have G_write_list := ok_write_list (P := P) (w := w) (base := base) e
  have G_write_deed := ok_write_deed (P := P) (w := w) (base := base) e
  refine e.F_write_triples.ok sc_write_triples (fun vs H Q E h => ?_) (fun cdv AA outer s H vs Q E hr h => ?_)
  · obtain ⟨a, us, ts, rfl, _⟩ := h
    rfl
  · obtain ⟨a, us, ts, rfl, ha, hT, ho, htl, hsz, q⟩ := h
    have hul : us.length = ts.length := Paired.length hT
    refine ⟨_, (pss_cons (ps_set (i := 1) sc_write_triples.nd rfl (Or.inl rfl) (pe_lst pa_nil))
    (pss_cons (ps_for PassesOwn.never rfl (pi_listK (K := K) (pv 0)) (pg_tupK (K := K) (n := 3) rfl (pgs_cons (pg_name (i := 2) sc_write_triples.nd rfl (Or.inl rfl)) (pgs_cons (pg_name (i := 3) sc_write_triples.nd rfl (Or.inl rfl)) (pgs_cons (pg_name (i := 4) sc_write_triples.nd rfl (Or.inl rfl)) pgs_nil)))) (pss_one (ps_expr (pe_bmK (K := K) PySem.F.plainAttrs_list PySem.F.slot_list_append PySem.F.type_list_append mt_append (pv 1) (pa_cons (pe_op op_cat (pe_op op_cat (pe_call G_write_number (hr.mono (by omega)) (by rfl) e.m_write_number e.k_write_number e.b_write_number .nil pass0 (pa_cons (pv 2) pa_nil)) (pe_call G_write_number (hr.mono (by omega)) (by rfl) e.m_write_number e.k_write_number e.b_write_number .nil pass0 (pa_cons (pv 3) pa_nil))) (pe_call G_write_deed (hr.mono (by omega)) (by rfl) e.m_write_deed e.k_write_deed e.b_write_deed .nil pass0 (pa_cons (pv 4) pa_nil))) pa_nil)))))
    (pss_one (ps_ret (pe_call G_write_list (hr.mono (by omega)) (by rfl) e.m_write_list e.k_write_list e.b_write_list .nil pass0 (pa_cons (pv 1) pa_nil)))))), ?_⟩
    refine enter (st_write_triples _) ?_
    walk_at "i"
    walk_at "r"
    intro z H1 nz k1 hz
    walk_at "r"
    refine forL (SqL.of (k1.get ha (by simp))) (fun i σ H' => ∃ v2 v3 v4 ls, σ = [some (.ref a), some (.ref z), v2, v3, v4] ∧ Keep [] H H' ∧ H' z = some (.lst ls) ∧ Lsts H' ls ((ts.take i).map wt))
      ⟨_, _, _, [], rfl, k1, hz, by rw [List.take_zero]; exact Paired.nil⟩ (fun i σ H' _ h => ?_) ?_ ?_
    · obtain ⟨_, _, _, _, _, k, _⟩ := h
      exact SqL.of (k.get ha (by simp))
    · rintro i x σ H2 hx ⟨v2, v3, v4, ls, rfl, k2, hz2, hL⟩
      obtain ⟨tt, htt, b, bv, rfl, hb, hdd⟩ := pd_get hT hx
      have hb2 := k2.get hb (by simp)
      have hdd2 := vD.keep hdd k2
      have hmem := List.mem_of_getElem? htt
      obtain ⟨o1, o2, o3⟩ := ho tt hmem
      have l1 := wn_le10 o1
      have l2 := wn_le10 o2
      have hls := hL.len
      rw [List.length_map, List.length_take] at hls
      have hwd : (wd tt.d).length ≤ 9999000 ∨ (wd tt.d).length ≤ 10000000 - 0 := .inr (by
        have h1 := mem_flat_len (List.mem_map_of_mem (f := wt) hmem)
        have h2 : (wts ts).length = (wn (ts.map wt).length).length + (ts.map wt).flatten.length := by simp [wts, wl]
        have h3 : (wt tt).length = (wn tt.r).length + (wn tt.p).length + (wd tt.d).length := by simp [wt]; omega
        omega)
      have hwd2 : (wd tt.d).length ≤ 10000000 := by omega
      walk_at "r"
      refine ⟨tt.r, rfl, o1.lt, fun p1 H3 n1 k3 h1 => ?_⟩
      walk_at "r"
      refine ⟨tt.p, rfl, o2.lt, fun p2 H4 n2 k4 h2 => ?_⟩
      have h14 := k4.get h1 (by simp)
      walk_at "r"
      intro c1 H5 nc1 k5 hc1
      have k25 := k3.trans (k4.trans k5)
      clear h1 h14 h2 
      walk_at "r"
      refine ⟨bv, tt.d, rfl, vD.keep hdd2 k25, o3, hwd2, fun p3 H6 n3 k6 h3 => ?_⟩
      have hc16 := k6.get hc1 (by simp)
      walk_at "r"
      intro c2 H7 nc2 k7 hc2
      have k27 := k25.trans (k6.trans k7)
      have hz7 := k27.get hz2 (by simp)
      have hL7 := hL.mono k27
      have nzc := ne_of_none ((k25.trans k6).get hz2 (by simp)) nc2
      clear hz2 hL hc1 hc16 h3
      walk_at "r"
      intro H8 k8 h8
      walk_at "r"
      refine ⟨_, _, _, _, rfl, (k2.trans k27).mut nz k8, h8, ?_⟩
      rw [List.take_add_one, htt, List.map_append]
      exact Paired.snoc (Lsts.mut hz7 k8 hL7) ⟨c2, rfl, by rw [k8.get hc2 (by simp [Ne.symm nzc])]; simp [wt]⟩
    · rintro σ H2 ⟨v2, v3, v4, ls, rfl, k2, hz2, hL⟩
      rw [hul, List.take_length] at hL
      walk_at "r"
      exact ⟨z, ls, ts.map wt, rfl, hz2, hL, by rw [List.length_map]; omega, hsz, fun p H3 np k3 hp => q p H3 (k2.free np (by simp)) (k2.trans k3) hp⟩
end My

end
section
set_option maxHeartbeats 4000000
local macro_rules | `(tactic| walk_at "k") => `(tactic| first
  | assumption
  | exact W.Keep.trans (by assumption) (by assumption)
  | exact And.intro (by grind [W.Keep, W.Kp]) (by grind [W.Keep, W.Kt])
  | grind [W.Keep, W.Kp])
local macro_rules | `(tactic| walk_at "f") => `(tactic| first
  | assumption
  | exact L2.SqL.of (by assumption)
  | exact L2.SqT.of (by assumption)
  | exact L2.SqL.of L2.upd_same
  | exact L2.SqT.of L2.upd_same
  | exact L2.upd_same
  | exact W.carryL (by assumption) (by assumption)
  | exact W.carryL (by assumption) (by walk_at "k")
  | exact W.carryT (by assumption) (by walk_at "k")
  | exact W.carry (by assumption) (by grind [W.Keep, W.Kp])
  | exact L2.SqL.of (W.carry (by assumption) (by grind [W.Keep, W.Kp]))
  | exact L2.SqT.of (W.carry (by assumption) (by grind [W.Keep, W.Kp])))
local macro_rules | `(tactic| walk_at "a") => `(tactic| first
  | assumption
  | rfl)
local macro_rules | `(tactic| walk_at "n") => `(tactic| first
  | assumption
  | exact Nat.zero_le _
  | decide
  | (simp only [List.length_cons, List.length_nil]; decide)
  | omega
  | (simp only [PySem.sizeLine_eq]; omega)
  | (simp only [List.length_map, List.length_append, List.length_cons, List.length_nil, PySem.sizeLine_eq]; omega)
  | (simp only [List.length_map, List.length_append, List.length_cons, List.length_nil, List.length_take, List.length_drop, PySem.sizeLine_eq]; omega)
  | (simp only [List.length_map, List.length_append, List.length_cons, List.length_nil, PySem.sizeLine_eq] at *; omega))
local macro_rules | `(tactic| walk_at "c") => `(tactic| first
  | assumption
  | decide
  | exact And.intro (by decide) (by decide)
  | exact Or.inr (And.intro (by decide) (by decide))
  | exact Or.inl (And.intro (by decide) (by decide))
  | exact And.intro (by decide) (And.intro (by decide) (by decide))
  | exact (show (0 : Int) < _ by decide)
  | exact And.intro (by omega) (by omega)
  | exact Or.inl (And.intro (by omega) (by omega))
  | exact Or.inr (And.intro (by omega) (by omega))
  | exact (show (0 : Int) < _ by omega))
local macro_rules | `(tactic| walk_at "v") => `(tactic| with_reducible first
  | refine W.v0 ?_ | refine W.v1 ?_ | refine W.v2 ?_ | refine W.v3 ?_ | refine W.v4 ?_ | refine W.v5 ?_ | refine W.v6 ?_ | refine W.v7 ?_ | refine W.v8 ?_
  | refine W.v9 ?_ | refine W.v10 ?_ | refine W.v11 ?_ | refine W.v12 ?_ | refine W.v13 ?_ | refine W.v14 ?_ | refine W.v15 ?_ | refine W.v16 ?_ | refine W.v17 ?_
  | refine W.g0 ?_ | refine W.g1 ?_ | refine W.g2 ?_ | refine W.g3 ?_ | refine W.g4 ?_ | refine W.g5 ?_ | refine W.g6 ?_ | refine W.g7 ?_ | refine W.g8 ?_
  | refine W.g9 ?_ | refine W.g10 ?_ | refine W.g11 ?_ | refine W.g12 ?_ | refine W.g13 ?_ | refine W.g14 ?_ | refine W.g15 ?_)
local macro_rules | `(tactic| walk_at "e") => `(tactic| with_reducible first
  | refine W.e_c ?_ | refine W.e_op ?_ | refine W.s_seq ?_ | refine W.s_asg ?_ | refine W.e_CB ?_ | refine W.a_cons ?_ | refine W.a_nil ?_ | refine W.e_call ?_
  | refine W.t_test ?_ | refine W.w_B ?_ | refine W.s_if ?_ | refine W.s_ret ?_ | refine W.s_drop ?_ | refine W.e_un ?_ | refine W.e_fld ?_ | refine W.s_fld ?_
  | refine W.e_meth ?_ | refine W.e_if ?_ | refine W.e_lst ?_ | refine W.e_tup ?_ | refine W.e_sl ?_ | refine W.o_none ?_ | refine W.o_some ?_ | refine W.w_part ?_
  | refine W.e_bm ?_ | refine W.e_bm0 ?_ | refine W.t_B ?_ | refine W.t_and ?_ | refine W.t_or ?_ | refine W.t_not ?_ | refine W.e_andV ?_ | refine W.e_orV ?_ | refine W.e_notV ?_ | refine W.w_BV ?_ | refine W.e_chain ?_
  | refine W.s_aug ?_ | refine W.s_augS ?_ | refine W.s_next ?_ | refine W.s_brk ?_ | refine W.s_cont ?_ | refine W.s_retN ?_ | refine W.s_fa ?_ | refine W.e_make ?_ | refine W.w_make ?_
  | refine W.w_I0 ?_ | refine W.w_U ?_ | refine W.w_aug ?_ | refine W.w_eqI ?_ | refine W.w_neI ?_ | refine W.w_eqS ?_ | refine W.w_neS ?_ | refine W.w_eqB ?_ | refine W.w_neB ?_
  | refine W.w_int ?_ | refine W.w_intB ?_ | refine W.w_min ?_ | refine W.w_max ?_ | refine W.w_isN ?_ | refine W.w_isI ?_ | refine W.w_isS ?_ | refine W.w_isB ?_ | refine W.w_isR ?_
  | refine W.w_notN ?_ | refine W.w_notI ?_ | refine W.w_notR ?_ | refine W.w_notS ?_ | refine W.w_eqNI ?_ | refine W.w_neNI ?_ | refine W.w_eqN ?_ | refine W.w_neN ?_
  | refine W.s_forL ?_ | refine W.s_forT ?_ | refine W.s_forS ?_ | refine W.s_forR1 ?_ | refine W.s_forR2 ?_ | refine W.s_forR3 ?_ | refine W.s_forZ ?_ | refine W.s_forE ?_
  | refine W.e_lcL ?_ | refine W.e_lcT ?_ | refine W.w_ord ?_ | refine W.e_lcR1 ?_ | refine W.e_lcR2 ?_ | refine W.e_lcZ ?_ | refine W.e_lcS ?_ | refine W.t_yes ?_ | refine W.w_gcons ?_ | refine W.w_gnil ?_ | refine W.s_par ?_ | refine W.w_par ?_ | refine W.g_sub ?_ | refine W.e_m1 ?_ | refine W.w_strR ?_ | refine W.w_rAdd ?_ | refine W.w_rSub ?_ | refine W.s_raise ?_ | refine W.s_try ?_ | refine W.e_methS ?_ | refine W.e_callS ?_)
local macro_rules | `(tactic| walk_at "w") => `(tactic| first
  | ((with_reducible refine' W.w_I ?wh ?wq); (case wh => walk_at "c"))
  | ((with_reducible refine' W.w_ixL (n := 0) ?wh ?we ?wq); (case wh => walk_at "f"); (case we => walk_at "a"))
  | ((with_reducible refine' W.w_ixT (n := 0) ?wh ?we ?wq); (case wh => walk_at "f"); (case we => walk_at "a"))
  | ((with_reducible refine' W.w_lenL ?wh ?wq); (case wh => walk_at "f"))
  | ((with_reducible refine' W.w_lenT ?wh ?wq); (case wh => walk_at "f"))
  | ((with_reducible refine' W.w_lenS ?wh ?wq); (case wh => walk_at "n"))
  | ((with_reducible refine' W.w_app ?wh ?we ?wq); (case wh => walk_at "f"); (case we => walk_at "n"))
  | ((with_reducible refine' W.w_meth ?wh ?we ?wq); (case wh => walk_at "f"); (case we => first | assumption | rfl))
  | ((with_reducible refine' W.w_ixLTl ?wh ?we ?wq); (case wh => walk_at "f"); (case we => walk_at "a"))
  | ((with_reducible refine' W.w_ixLTt ?wh ?we ?wq); (case wh => walk_at "f"); (case we => walk_at "a"))
  | ((with_reducible refine' W.w_addS ?wh ?wq); (case wh => walk_at "n"))
  | ((with_reducible refine' W.w_set ?wh ?we ?wq); (case wh => walk_at "f"); (case we => walk_at "a"))
  | ((with_reducible refine' W.w_tup ?wh ?we ?wq); (case wh => walk_at "f"); (case we => first | assumption | rfl))
  | ((with_reducible refine' W.w_slS ?wh ?wq); (case wh => walk_at "n"))
  | ((with_reducible refine' W.w_rApp ?wh ?we ?wq); (case wh => walk_at "f"); (case we => walk_at "n"))
  | ((with_reducible refine' W.w_newL ?wh ?wq); (case wh => walk_at "n"))
  | ((with_reducible refine' W.w_newT ?wh ?wq); (case wh => walk_at "n"))
  | ((with_reducible refine' W.w_listL ?wh ?wq); (case wh => walk_at "f"))
  | ((with_reducible refine' W.w_tupL ?wh ?wq); (case wh => walk_at "f"))
  | ((with_reducible refine' W.w_slL ?wh ?wq); (case wh => walk_at "f"))
  | ((with_reducible refine' W.w_cat ?wh ?wf ?we ?wq); (case wh => walk_at "f"); (case wf => walk_at "f"); (case we => walk_at "n"))
  | ((with_reducible refine' W.w_catT ?wh ?wf ?wx ?wy ?we ?wq); (case wh => walk_at "f"); (case wf => walk_at "f"); (case wx => exact List.cons_ne_nil _ _); (case wy => exact List.cons_ne_nil _ _); (case we => walk_at "n"))
  | ((with_reducible refine' W.w_ext ?wh ?wf ?we ?wq); (case wh => walk_at "f"); (case wf => walk_at "f"); (case we => walk_at "n"))
  | ((with_reducible refine' W.w_recv ?wh ?wq); (case wh => walk_at "f"))
  | ((with_reducible refine' W.w_isi1 ?wh ?we ?wq); (case wh => assumption); (case we => decide +kernel))
  | ((with_reducible refine' W.w_isi0 ?wh ?we ?wq); (case wh => assumption); (case we => decide +kernel))
  | ((with_reducible refine' W.w_isiT10 ?wh ?wf ?we ?wg ?wq); (case wh => assumption); (case wf => walk_at "f"); (case we => decide +kernel); (case wg => decide +kernel))
  | ((with_reducible refine' W.w_isiT01 ?wh ?wf ?we ?wg ?wq); (case wh => assumption); (case wf => walk_at "f"); (case we => decide +kernel); (case wg => decide +kernel))
  | ((with_reducible refine' W.w_isiT00 ?wh ?wf ?we ?wg ?wq); (case wh => assumption); (case wf => walk_at "f"); (case we => decide +kernel); (case wg => decide +kernel))
  | ((with_reducible refine' W.w_ins ?wh ?we ?wf ?wq); (case wh => walk_at "f"); (case we => walk_at "n"); (case wf => walk_at "c"))
  | ((with_reducible refine' W.w_unl ?wh ?we ?wq); (case wh => walk_at "f"); (case we => first | assumption | rfl))
  | ((with_reducible refine' W.ite_T ?_))
  | ((with_reducible refine' W.ite_F ?_))
  | ((with_reducible refine' W.ite_nT ?_))
  | ((with_reducible refine' W.ite_nF ?_))
  | ((with_reducible refine' W.ite_self ?_))
  | ((with_reducible refine' W.ite_nself ?_))
  | ((with_reducible refine' W.ite_tf ?_))
  | ((with_reducible refine' W.ite_ft ?_))
  | ((with_reducible refine' W.ite_ntf ?_))
  | ((with_reducible refine' W.ite_nft ?_))
  | ((with_reducible refine' And.intro ?wl ?wq); (case wl => rfl)))
local macro_rules | `(tactic| walk_at "i") => `(tactic| try (dsimp only [L2.cxOf, L2.wipe, List.map, List.set]))
local macro_rules | `(tactic| walk_at "s") => `(tactic| first | walk_at "v" | walk_at "e" | walk_at "w")
local macro_rules | `(tactic| walk_at "r") => `(tactic| repeat walk_at "s")

namespace My
open PySem L2 W
variable {P : Program} {w : World} {K : PySem.W.Frag} {mg : Str → Option Value} {base : Heap} {A : Adr}
/-- what the law's reader tells -/
def oV {α : Type} (Val : Hp → α → V → Prop) (H : Hp) : Option (α × Nat) → V → Prop
  | none, v => v = .non
  | some (a, q), v => ∃ t u, v = .ref t ∧ H t = some (.tup [u, .int (q : Int)]) ∧ Val H a u
def spL {α : Type} (P : Rdr α) (Val : Hp → α → V → Prop) : Sp := fun vs H Q _ => ∃ (a : Addr) (ds : List Int) (p : Nat), vs = [.ref a, .int (p : Int)] ∧ H a = some (.lst (ds.map V.int)) ∧ ds.length ≤ 1000000 ∧ (∀ b ∈ ds, 0 ≤ b) ∧
  ∀ v H', Keep [] H H' → oV Val H' (P ds p) v → Q v H'
theorem oV_no {α : Type} {Val : Hp → α → V → Prop} {H : Hp} {z : Option (α × Nat)} (h : z = none) : oV Val H z .non := by subst h; rfl
theorem oV_yes {α : Type} {Val : Hp → α → V → Prop} {H : Hp} {z : Option (α × Nat)} {a : α} {q : Nat} {t : Addr} {u : V} (h : z = some (a, q)) (ht : H t = some (.tup [u, .int (q : Int)])) (hv : Val H a u) : oV Val H z (.ref t) := by subst h; exact ⟨t, u, rfl, ht, hv⟩
theorem at_ds {ds : List Int} {p i : Nat} (hp : p + i < ds.length) : atI (ds.map V.int) ((p : Int) + (i : Int)) = some (.int (ds.getD (p + i) 0)) := by
  rw [show (p : Int) + (i : Int) = ((p + i : Nat) : Int) by omega]
  refine atI_nat ?_
  rw [List.getElem?_map, List.getD_eq_getElem?_getD, List.getElem?_eq_getElem hp]; rfl
theorem ok__law_read_number (e : Env K mg A) : FnOk P w K mg base CX0 1 A.f__law_read_number A.d__law_read_number ["data", "at"] (spL pnum vN) := by
  refine e.F__law_read_number.ok sc__law_read_number (fun vs H Q E h => ?_) (fun cdv AA outer s H vs Q E hr h => ?_)
  · obtain ⟨a, ds, p, rfl, _⟩ := h
    rfl
  · obtain ⟨a, ds, p, rfl, ha, hl, hn, q⟩ := h
    refine ⟨_, (pss_cons (ps_set (i := 2) sc__law_read_number.nd rfl (Or.inl rfl) pe_int)
    (pss_cons (ps_set (i := 3) sc__law_read_number.nd rfl (Or.inl rfl) pe_int)
    (pss_cons (ps_for PassesOwn.never rfl (pi_range1 rfl e.n_range (pa_cons pe_int pa_nil)) (pg_name (i := 4) sc__law_read_number.nd rfl (Or.inl rfl)) (pss_cons (ps_if (pt_cmpR op_ge (pe_op op_add (pv 1) (pv 4)) (pe_callB (call_lenLK (K := K)) (by rfl) e.n_len (by decide +kernel) (pa_cons (pv 0) pa_nil)) (nomark _)) (pss_one (ps_ret pe_non)) pss_nil)
    (pss_cons (ps_set (i := 2) sc__law_read_number.nd rfl (Or.inl rfl) (pe_op op_add (pv 2) (pe_op op_mul (pe_op op_mod (pe_ix (ix_listK (K := K)) (pv 0) (pe_op op_add (pv 1) (pv 4)) (fun _ _ => rfl)) pe_int) (pv 3))))
    (pss_cons (ps_set (i := 3) sc__law_read_number.nd rfl (Or.inl rfl) (pe_op op_mul (pv 3) pe_int))
    (pss_one (ps_if (pt_cmpR op_lt (pe_ix (ix_listK (K := K)) (pv 0) (pe_op op_add (pv 1) (pv 4)) (fun _ _ => rfl)) pe_int (nomark _)) (pss_one (ps_ret (pe_ifExp (PW.pt (pw_and (pt_cmpR op_gt (pv 4) pe_int (nomark _)) (pw_and1 (pt_cmpR op_eq (pe_ix (ix_listK (K := K)) (pv 0) (pe_op op_add (pv 1) (pv 4)) (fun _ _ => rfl)) pe_int (nomark _))))) pe_non (pe_tup (pa_cons (pv 2) (pa_cons (pe_op op_add (pe_op op_add (pv 1) (pv 4)) pe_int) pa_nil)))))) pss_nil))))))
    (pss_one (ps_ret pe_non))))), ?_⟩
    refine enter (st__law_read_number _ _) ?_
    walk_at "i"
    walk_at "r"
    refine forR1 (by omega) (by omega) (fun i σ H' => ∃ (t c : Int) (v4 : Option V), σ = [some (.ref a), some (.int (p : Int)), some (.int t), some (.int c), v4] ∧ H' = H ∧ i ≤ 60 ∧ rn 60 (ds.drop p) 0 0 1 = rn (60 - i) (ds.drop (p + i)) i t c)
      ⟨_, _, _, rfl, rfl, by omega, rfl⟩ ?_ ?_
    · rintro i σ H1 hi ⟨t, c, v4, rfl, rfl, hi2, hrn⟩
      obtain ⟨f, hf⟩ : ∃ f, 60 - i = f + 1 := ⟨59 - i, by omega⟩
      rw [hf] at hrn
      walk_at "r"
      rw [List.length_map]
      refine ite_dec (fun h1 => ?_) (fun h1 => ?_)
      · walk_at "r"
        rw [show ds.drop (p + i) = [] from List.drop_of_length_le (by omega)] at hrn
        exact q _ _ Keep.refl (oV_no (pnum_none hrn))
      · have hp : p + i < ds.length := by omega
        have hd : ds.drop (p + i) = ds.getD (p + i) 0 :: ds.drop (p + (i + 1)) := by
          rw [List.drop_eq_getElem_cons hp, List.getD_eq_getElem?_getD, List.getElem?_eq_getElem hp]; rfl
        have hat := at_ds hp
        rw [hd] at hrn
        generalize ds.getD (p + i) 0 = b at hrn hat
        have hrn2 : rn 60 (ds.drop p) 0 0 1 = if b < 128 then (if b = 0 ∧ 0 < i then none else some (i + 1, t + b % 128 * c)) else rn f (ds.drop (p + (i + 1))) (i + 1) (t + b % 128 * c) (c * 128) := hrn
        walk_at "r"
        refine ite_dec (fun hb => ?_) (fun hb => ?_)
        · rw [if_pos hb] at hrn2
          walk_at "r"
          have ret : ¬ (b = 0 ∧ 0 < i) → ∀ t' H', Keep [] H1 H' → H' t' = some (.tup [.int (t + b % 128 * c), .int ((p : Int) + (i : Int) + 1)]) → Q (.ref t') H' := fun z t' H' k h => by
            rw [if_neg z] at hrn2
            obtain ⟨e1, e2⟩ := pnum_some hrn2
            rw [show (p : Int) + (i : Int) + 1 = ((p + (i + 1) : Nat) : Int) by omega] at h
            exact q _ _ k (oV_yes e1 h (congrArg V.int e2))
          refine ite_dec (fun h2 => ?_) (fun h2 => ?_)
          · walk_at "r"
            refine ite_dec (fun h3 => ?_) (fun h3 => ?_)
            · walk_at "r"
              rw [if_pos ⟨h3, by omega⟩] at hrn2
              exact q _ _ Keep.refl (oV_no (pnum_none hrn2))
            · walk_at "r"
              intro t' H2 _ k2 h2
              exact ret (fun z => h3 z.1) t' H2 k2 h2
          · walk_at "r"
            intro t' H2 _ k2 h3
            exact ret (fun z => h2 (by omega)) t' H2 k2 h3
        · rw [if_neg hb] at hrn2
          walk_at "r"
          refine ⟨_, _, _, rfl, rfl, by omega, ?_⟩
          rw [hrn2, show 60 - (i + 1) = f by omega]
    · rintro σ H1 ⟨t, c, v4, rfl, rfl, hi2, hrn⟩
      walk_at "r"
      exact q _ _ Keep.refl (oV_no (pnum_none hrn))
def sp_sign : Sp := fun vs H Q _ => ∃ n : Nat, vs = [.int (n : Int)] ∧ okch n = true ∧ Q (.str (tx [n])) H
theorem ok__law_sign (e : Env K mg A) : FnOk P w K mg base CX0 1 A.f__law_sign A.d__law_sign ["code"] sp_sign := by
  refine e.F__law_sign.ok sc__law_sign (fun vs H Q E h => ?_) (fun cdv AA outer s H vs Q E hr h => ?_)
  · obtain ⟨n, rfl, _⟩ := h
    rfl
  · obtain ⟨n, rfl, ho, q⟩ := h
    have ho2 : n = 10 ∨ (32 ≤ n ∧ n < 37) ∨ (38 ≤ n ∧ n < 127) := by unfold okch at ho; simp at ho; omega
    refine ⟨_, (pss_cons (ps_set (i := 1) sc__law_sign.nd rfl (Or.inl rfl) pe_str)
    (pss_cons (ps_set (i := 2) sc__law_sign.nd rfl (Or.inl rfl) pe_str)
    (pss_cons (ps_if (pt_cmpR op_lt (pv 0) pe_int (nomark _)) (pss_one (ps_ret (pe_ifExp (pt_cmpR op_eq (pv 0) pe_int (nomark _)) pe_str (pe_ix ix_str (pv 1) (pe_op op_sub (pv 0) pe_int) (fun _ _ => rfl))))) pss_nil)
    (pss_one (ps_ret (pe_ix ix_str (pv 2) (pe_op op_sub (pv 0) pe_int) (fun _ _ => rfl))))))), ?_⟩
    refine enter (st__law_sign _) ?_
    walk_at "i"
    simp only [nl_]
    walk_at "r"
    refine ite_dec (fun h1 => ?_) (fun h1 => ?_)
    · walk_at "r"
      refine ite_dec (fun h2 => ?_) (fun h2 => ?_)
      · walk_at "r"
        rw [show n = 10 by omega] at q
        exact q
      · walk_at "r"
        refine w_ixS bef_z (bef_at (by omega) (by omega)) ?_
        exact q
    · walk_at "r"
      refine w_ixS aft_z (aft_at (by omega) (by omega)) ?_
      exact q
theorem ok__law_read_text (e : Env K mg A) : FnOk P w K mg base CX0 2 A.f__law_read_text A.d__law_read_text ["data", "at"] (spL pstr vS) := by
  have G__law_read_number := ok__law_read_number (P := P) (w := w) (base := base) e
  have G__law_sign := ok__law_sign (P := P) (w := w) (base := base) e
  refine e.F__law_read_text.ok sc__law_read_text (fun vs H Q E h => ?_) (fun cdv AA outer s H vs Q E hr h => ?_)
  · obtain ⟨a, ds, p, rfl, _⟩ := h
    rfl
  · obtain ⟨a, ds, p, rfl, ha, hl, hn, q⟩ := h
    refine ⟨_, (pss_cons (ps_set (i := 2) sc__law_read_text.nd rfl (Or.inl rfl) (pe_call G__law_read_number (hr.mono (by omega)) (by rfl) e.m__law_read_number e.k__law_read_number e.b__law_read_number .nil pass0 (pa_cons (pv 0) (pa_cons (pv 1) pa_nil))))
    (pss_cons (ps_if (PW.pt (pw_or (pt_cmpR op_isNo (pv 2) pe_non (nomark _)) (pw_or1 (pt_cmpR op_gt (pe_ix (ix_tupK (K := K)) (pv 2) pe_int (fun _ _ => rfl)) (pe_op op_sub (pe_callB (call_lenLK (K := K)) (by rfl) e.n_len (by decide +kernel) (pa_cons (pv 0) pa_nil)) (pe_ix (ix_tupK (K := K)) (pv 2) pe_int (fun _ _ => rfl))) (nomark _))))) (pss_one (ps_ret pe_non)) pss_nil)
    (pss_cons (ps_asg (pv 2) (pg_tupK (K := K) (n := 2) rfl (pgs_cons (pg_name (i := 3) sc__law_read_text.nd rfl (Or.inl rfl)) (pgs_cons (pg_name (i := 1) sc__law_read_text.nd rfl (Or.inl rfl)) pgs_nil))))
    (pss_cons (ps_set (i := 4) sc__law_read_text.nd rfl (Or.inl rfl) pe_str)
    (pss_cons (ps_for PassesOwn.never rfl (pi_range1 rfl e.n_range (pa_cons (pv 3) pa_nil)) (pg_name (i := 5) sc__law_read_text.nd rfl (Or.inl rfl)) (pss_cons (ps_set (i := 2) sc__law_read_text.nd rfl (Or.inl rfl) (pe_call G__law_read_number (hr.mono (by omega)) (by rfl) e.m__law_read_number e.k__law_read_number e.b__law_read_number .nil pass0 (pa_cons (pv 0) (pa_cons (pv 1) pa_nil))))
    (pss_cons (ps_if (PW.pt (pw_or (pt_cmpR op_isNo (pv 2) pe_non (nomark _)) (pw_or (PW.pt (pw_and (pt_cmpR op_ne (pe_ix (ix_tupK (K := K)) (pv 2) pe_int (fun _ _ => rfl)) pe_int (nomark _)) (pw_and1 (pt_not (pt_chain op_le op_le pe_int (pe_ix (ix_tupK (K := K)) (pv 2) pe_int (fun _ _ => rfl)) pe_int))))) (pw_or1 (pt_cmpR op_eq (pe_ix (ix_tupK (K := K)) (pv 2) pe_int (fun _ _ => rfl)) pe_int (nomark _)))))) (pss_one (ps_ret pe_non)) pss_nil)
    (pss_cons (ps_set (i := 4) sc__law_read_text.nd rfl (Or.inl rfl) (pe_op op_addS (pv 4) (pe_call G__law_sign (hr.mono (by omega)) (by rfl) e.m__law_sign e.k__law_sign e.b__law_sign .nil pass0 (pa_cons (pe_ix (ix_tupK (K := K)) (pv 2) pe_int (fun _ _ => rfl)) pa_nil))))
    (pss_one (ps_set (i := 1) sc__law_read_text.nd rfl (Or.inl rfl) (pe_ix (ix_tupK (K := K)) (pv 2) pe_int (fun _ _ => rfl))))))))
    (pss_one (ps_ret (pe_tup (pa_cons (pv 4) (pa_cons (pv 1) pa_nil)))))))))), ?_⟩
    refine enter (st__law_read_text _ _) ?_
    walk_at "i"
    simp only [em_]
    walk_at "r"
    refine ⟨a, ds, p, rfl, ha, hl, hn, fun v H1 k1 hv => ?_⟩
    cases hz : pnum ds p with
    | none =>
      rw [hz] at hv
      obtain rfl : v = .non := hv
      walk_at "r"
      exact q _ H1 k1 (oV_no (by unfold pstr plist pcnt; rw [hz]; rfl))
    | some z =>
      obtain ⟨n, q1⟩ := z
      rw [hz] at hv
      obtain ⟨t, u, rfl, ht, rfl⟩ := hv
      have hc : pcnt ds p = if ds.length < n + q1 then none else some (n, q1) := by unfold pcnt; rw [hz]; rfl
      have ha1 := k1.get ha (by simp)
      walk_at "r"
      rw [List.length_map]
      refine ite_dec (fun h1 => ?_) (fun h1 => ?_)
      · walk_at "r"
        exact q _ H1 k1 (oV_no (by unfold pstr plist; rw [hc, if_pos (by omega)]; rfl))
      · rw [if_neg (by omega)] at hc
        have e1 : pstr ds p = pmany (psig ds) n q1 := by unfold pstr plist; rw [hc]; rfl
        walk_at "r"
        refine forR1 (by omega) (by omega) (fun i σ H' => ∃ (v2 v5 : Option V) (s : List Nat) (q' : Nat), σ = [some (.ref a), some (.int (q' : Int)), v2, some (.int (n : Int)), some (.str (tx s)), v5] ∧ Keep [] H H' ∧ pmany (psig ds) i q1 = some (s, q'))
          ⟨_, _, [], q1, rfl, k1, rfl⟩ ?_ ?_
        · rintro i σ H2 hi ⟨v2, v5, s, q', rfl, k2, hm⟩
          have hsl := pmany_len _ hm
          have ha2 := k2.get ha (by simp)
          have fail : psig ds q' = none → ∀ H', Keep [] H2 H' → Q .non H' := fun hf H' k => q _ H' (k2.trans k) (oV_no (by rw [e1]; exact pmany_stop (psig ds) hm hf (by omega)))
          walk_at "r"
          refine ⟨a, ds, q', rfl, ha2, hl, hn, fun v H3 k3 hv => ?_⟩
          cases hz2 : pnum ds q' with
          | none =>
            rw [hz2] at hv
            obtain rfl : v = .non := hv
            walk_at "r"
            exact fail (by unfold psig; rw [hz2]; rfl) H3 k3
          | some z =>
            obtain ⟨c, q2⟩ := z
            rw [hz2] at hv
            obtain ⟨t2, u2, rfl, ht2, rfl⟩ := hv
            have hs : psig ds q' = if okch c then some (c, q2) else none := by unfold psig; rw [hz2]; rfl
            have no : okch c = false → Q .non H3 := fun h => fail (by rw [hs, h]; rfl) H3 k3
            have yes : okch c = true → psig ds q' = some (c, q2) := fun h => by rw [hs, if_pos h]
            clear hs
            have z1 : (tx s).length + (tx [c]).length ≤ PySem.sizeLine := by rw [tx_len, tx_len, PySem.sizeLine_eq, List.length_singleton]; omega
            walk_at "r"
            refine ite_ndec (fun h2 => ?_) (fun h2 => ?_)
            · walk_at "r"
              refine ite_dec (fun h3 => ?_) (fun h3 => ?_)
              · walk_at "r"
                refine ite_ndec (fun h4 => ?_) (fun h4 => ?_)
                · walk_at "r"
                  exact no (by unfold okch; simp; omega)
                · walk_at "r"
                  refine ite_dec (fun h5 => ?_) (fun h5 => ?_)
                  · walk_at "r"
                    exact no (by unfold okch; simp; omega)
                  · have hok : okch c = true := by unfold okch; simp; omega
                    walk_at "r"
                    refine ⟨c, rfl, hok, ?_⟩
                    walk_at "r"
                    exact ⟨_, _, s ++ [c], q2, by rw [tx_app], k2.trans k3, pmany_step _ hm (yes hok)⟩
              · walk_at "r"
                exact no (by unfold okch; simp; omega)
            · have hok : okch c = true := by unfold okch; simp; omega
              walk_at "r"
              refine ite_N (by omega) ?_
              walk_at "r"
              refine ⟨c, rfl, hok, ?_⟩
              walk_at "r"
              exact ⟨_, _, s ++ [c], q2, by rw [tx_app], k2.trans k3, pmany_step _ hm (yes hok)⟩
        · rintro σ H2 ⟨v2, v5, s, q', rfl, k2, hm⟩
          walk_at "r"
          simp only [Int.toNat_natCast] at hm
          intro t2 H3 nt k3 ht3
          exact q _ H3 (k2.trans k3) (oV_yes (by rw [e1]; exact hm) ht3 rfl)
theorem ok__law_read_mark (e : Env K mg A) : FnOk P w K mg base CX0 2 A.f__law_read_mark A.d__law_read_mark ["data", "at"] (spL pmk vM) := by
  have G__law_read_number := ok__law_read_number (P := P) (w := w) (base := base) e
  refine e.F__law_read_mark.ok sc__law_read_mark (fun vs H Q E h => ?_) (fun cdv AA outer s H vs Q E hr h => ?_)
  · obtain ⟨a, ds, p, rfl, _⟩ := h
    rfl
  · obtain ⟨a, ds, p, rfl, ha, hl, hn, q⟩ := h
    refine ⟨_, (pss_cons (ps_set (i := 2) sc__law_read_mark.nd rfl (Or.inl rfl) (pe_call G__law_read_number (hr.mono (by omega)) (by rfl) e.m__law_read_number e.k__law_read_number e.b__law_read_number .nil pass0 (pa_cons (pv 0) (pa_cons (pv 1) pa_nil))))
    (pss_cons (ps_set (i := 3) sc__law_read_mark.nd rfl (Or.inl rfl) (pe_ifExp (pt_cmpR op_isNo (pv 2) pe_non (nomark _)) pe_non (pe_call G__law_read_number (hr.mono (by omega)) (by rfl) e.m__law_read_number e.k__law_read_number e.b__law_read_number .nil pass0 (pa_cons (pv 0) (pa_cons (pe_ix (ix_tupK (K := K)) (pv 2) pe_int (fun _ _ => rfl)) pa_nil)))))
    (pss_one (ps_ret (pe_ifExp (pt_cmpR op_isNo (pv 3) pe_non (nomark _)) pe_non (pe_tup (pa_cons (pe_tup (pa_cons (pe_ix (ix_tupK (K := K)) (pv 2) pe_int (fun _ _ => rfl)) (pa_cons (pe_ix (ix_tupK (K := K)) (pv 3) pe_int (fun _ _ => rfl)) pa_nil))) (pa_cons (pe_ix (ix_tupK (K := K)) (pv 3) pe_int (fun _ _ => rfl)) pa_nil)))))))), ?_⟩
    refine enter (st__law_read_mark _ _) ?_
    walk_at "i"
    walk_at "r"
    refine ⟨a, ds, p, rfl, ha, hl, hn, fun v H1 k1 hv => ?_⟩
    cases hz : pnum ds p with
    | none =>
      rw [hz] at hv
      obtain rfl : v = .non := hv
      walk_at "r"
      exact q _ H1 k1 (oV_no (by unfold pmk; rw [hz]; rfl))
    | some z =>
      obtain ⟨n, q1⟩ := z
      rw [hz] at hv
      obtain ⟨t, u, rfl, ht, rfl⟩ := hv
      walk_at "r"
      refine ⟨a, ds, q1, rfl, k1.get ha (by simp), hl, hn, fun v H2 k2 hv => ?_⟩
      cases hz2 : pnum ds q1 with
      | none =>
        rw [hz2] at hv
        obtain rfl : v = .non := hv
        walk_at "r"
        exact q _ H2 (k1.trans k2) (oV_no (by unfold pmk; rw [hz]; simp only [Option.bind_some]; rw [hz2]; rfl))
      | some z =>
        obtain ⟨m, q2⟩ := z
        rw [hz2] at hv
        obtain ⟨t2, u2, rfl, ht2, rfl⟩ := hv
        walk_at "r"
        intro t3 H3 n3 k3 ht3
        walk_at "r"
        intro t4 H4 n4 k4 ht4
        exact q _ H4 (k1.trans (k2.trans (k3.trans k4))) (oV_yes (a := (n, m)) (by unfold pmk; rw [hz]; simp only [Option.bind_some]; rw [hz2]; rfl) ht4 ⟨t3, rfl, k4.get ht3 (by simp)⟩)
end My

end
section
set_option maxHeartbeats 4000000
local macro_rules | `(tactic| walk_at "k") => `(tactic| first
  | assumption
  | exact W.Keep.trans (by assumption) (by assumption)
  | exact And.intro (by grind [W.Keep, W.Kp]) (by grind [W.Keep, W.Kt])
  | grind [W.Keep, W.Kp])
local macro_rules | `(tactic| walk_at "f") => `(tactic| first
  | assumption
  | exact L2.SqL.of (by assumption)
  | exact L2.SqT.of (by assumption)
  | exact L2.SqL.of L2.upd_same
  | exact L2.SqT.of L2.upd_same
  | exact L2.upd_same
  | exact W.carryL (by assumption) (by assumption)
  | exact W.carryL (by assumption) (by walk_at "k")
  | exact W.carryT (by assumption) (by walk_at "k")
  | exact W.carry (by assumption) (by grind [W.Keep, W.Kp])
  | exact L2.SqL.of (W.carry (by assumption) (by grind [W.Keep, W.Kp]))
  | exact L2.SqT.of (W.carry (by assumption) (by grind [W.Keep, W.Kp])))
local macro_rules | `(tactic| walk_at "a") => `(tactic| first
  | assumption
  | rfl)
local macro_rules | `(tactic| walk_at "n") => `(tactic| first
  | assumption
  | exact Nat.zero_le _
  | decide
  | (simp only [List.length_cons, List.length_nil]; decide)
  | omega
  | (simp only [PySem.sizeLine_eq]; omega)
  | (simp only [List.length_map, List.length_append, List.length_cons, List.length_nil, PySem.sizeLine_eq]; omega)
  | (simp only [List.length_map, List.length_append, List.length_cons, List.length_nil, List.length_take, List.length_drop, PySem.sizeLine_eq]; omega)
  | (simp only [List.length_map, List.length_append, List.length_cons, List.length_nil, PySem.sizeLine_eq] at *; omega))
local macro_rules | `(tactic| walk_at "c") => `(tactic| first
  | assumption
  | decide
  | exact And.intro (by decide) (by decide)
  | exact Or.inr (And.intro (by decide) (by decide))
  | exact Or.inl (And.intro (by decide) (by decide))
  | exact And.intro (by decide) (And.intro (by decide) (by decide))
  | exact (show (0 : Int) < _ by decide)
  | exact And.intro (by omega) (by omega)
  | exact Or.inl (And.intro (by omega) (by omega))
  | exact Or.inr (And.intro (by omega) (by omega))
  | exact (show (0 : Int) < _ by omega))
local macro_rules | `(tactic| walk_at "v") => `(tactic| with_reducible first
  | refine W.v0 ?_ | refine W.v1 ?_ | refine W.v2 ?_ | refine W.v3 ?_ | refine W.v4 ?_ | refine W.v5 ?_ | refine W.v6 ?_ | refine W.v7 ?_ | refine W.v8 ?_
  | refine W.v9 ?_ | refine W.v10 ?_ | refine W.v11 ?_ | refine W.v12 ?_ | refine W.v13 ?_ | refine W.v14 ?_ | refine W.v15 ?_ | refine W.v16 ?_ | refine W.v17 ?_
  | refine W.g0 ?_ | refine W.g1 ?_ | refine W.g2 ?_ | refine W.g3 ?_ | refine W.g4 ?_ | refine W.g5 ?_ | refine W.g6 ?_ | refine W.g7 ?_ | refine W.g8 ?_
  | refine W.g9 ?_ | refine W.g10 ?_ | refine W.g11 ?_ | refine W.g12 ?_ | refine W.g13 ?_ | refine W.g14 ?_ | refine W.g15 ?_)
local macro_rules | `(tactic| walk_at "e") => `(tactic| with_reducible first
  | refine W.e_c ?_ | refine W.e_op ?_ | refine W.s_seq ?_ | refine W.s_asg ?_ | refine W.e_CB ?_ | refine W.a_cons ?_ | refine W.a_nil ?_ | refine W.e_call ?_
  | refine W.t_test ?_ | refine W.w_B ?_ | refine W.s_if ?_ | refine W.s_ret ?_ | refine W.s_drop ?_ | refine W.e_un ?_ | refine W.e_fld ?_ | refine W.s_fld ?_
  | refine W.e_meth ?_ | refine W.e_if ?_ | refine W.e_lst ?_ | refine W.e_tup ?_ | refine W.e_sl ?_ | refine W.o_none ?_ | refine W.o_some ?_ | refine W.w_part ?_
  | refine W.e_bm ?_ | refine W.e_bm0 ?_ | refine W.t_B ?_ | refine W.t_and ?_ | refine W.t_or ?_ | refine W.t_not ?_ | refine W.e_andV ?_ | refine W.e_orV ?_ | refine W.e_notV ?_ | refine W.w_BV ?_ | refine W.e_chain ?_
  | refine W.s_aug ?_ | refine W.s_augS ?_ | refine W.s_next ?_ | refine W.s_brk ?_ | refine W.s_cont ?_ | refine W.s_retN ?_ | refine W.s_fa ?_ | refine W.e_make ?_ | refine W.w_make ?_
  | refine W.w_I0 ?_ | refine W.w_U ?_ | refine W.w_aug ?_ | refine W.w_eqI ?_ | refine W.w_neI ?_ | refine W.w_eqS ?_ | refine W.w_neS ?_ | refine W.w_eqB ?_ | refine W.w_neB ?_
  | refine W.w_int ?_ | refine W.w_intB ?_ | refine W.w_min ?_ | refine W.w_max ?_ | refine W.w_isN ?_ | refine W.w_isI ?_ | refine W.w_isS ?_ | refine W.w_isB ?_ | refine W.w_isR ?_
  | refine W.w_notN ?_ | refine W.w_notI ?_ | refine W.w_notR ?_ | refine W.w_notS ?_ | refine W.w_eqNI ?_ | refine W.w_neNI ?_ | refine W.w_eqN ?_ | refine W.w_neN ?_
  | refine W.s_forL ?_ | refine W.s_forT ?_ | refine W.s_forS ?_ | refine W.s_forR1 ?_ | refine W.s_forR2 ?_ | refine W.s_forR3 ?_ | refine W.s_forZ ?_ | refine W.s_forE ?_
  | refine W.e_lcL ?_ | refine W.e_lcT ?_ | refine W.w_ord ?_ | refine W.e_lcR1 ?_ | refine W.e_lcR2 ?_ | refine W.e_lcZ ?_ | refine W.e_lcS ?_ | refine W.t_yes ?_ | refine W.w_gcons ?_ | refine W.w_gnil ?_ | refine W.s_par ?_ | refine W.w_par ?_ | refine W.g_sub ?_ | refine W.e_m1 ?_ | refine W.w_strR ?_ | refine W.w_rAdd ?_ | refine W.w_rSub ?_ | refine W.s_raise ?_ | refine W.s_try ?_ | refine W.e_methS ?_ | refine W.e_callS ?_)
local macro_rules | `(tactic| walk_at "w") => `(tactic| first
  | ((with_reducible refine' W.w_I ?wh ?wq); (case wh => walk_at "c"))
  | ((with_reducible refine' W.w_ixL (n := 0) ?wh ?we ?wq); (case wh => walk_at "f"); (case we => walk_at "a"))
  | ((with_reducible refine' W.w_ixT (n := 0) ?wh ?we ?wq); (case wh => walk_at "f"); (case we => walk_at "a"))
  | ((with_reducible refine' W.w_lenL ?wh ?wq); (case wh => walk_at "f"))
  | ((with_reducible refine' W.w_lenT ?wh ?wq); (case wh => walk_at "f"))
  | ((with_reducible refine' W.w_lenS ?wh ?wq); (case wh => walk_at "n"))
  | ((with_reducible refine' W.w_app ?wh ?we ?wq); (case wh => walk_at "f"); (case we => walk_at "n"))
  | ((with_reducible refine' W.w_meth ?wh ?we ?wq); (case wh => walk_at "f"); (case we => first | assumption | rfl))
  | ((with_reducible refine' W.w_ixLTl ?wh ?we ?wq); (case wh => walk_at "f"); (case we => walk_at "a"))
  | ((with_reducible refine' W.w_ixLTt ?wh ?we ?wq); (case wh => walk_at "f"); (case we => walk_at "a"))
  | ((with_reducible refine' W.w_addS ?wh ?wq); (case wh => walk_at "n"))
  | ((with_reducible refine' W.w_set ?wh ?we ?wq); (case wh => walk_at "f"); (case we => walk_at "a"))
  | ((with_reducible refine' W.w_tup ?wh ?we ?wq); (case wh => walk_at "f"); (case we => first | assumption | rfl))
  | ((with_reducible refine' W.w_slS ?wh ?wq); (case wh => walk_at "n"))
  | ((with_reducible refine' W.w_rApp ?wh ?we ?wq); (case wh => walk_at "f"); (case we => walk_at "n"))
  | ((with_reducible refine' W.w_newL ?wh ?wq); (case wh => walk_at "n"))
  | ((with_reducible refine' W.w_newT ?wh ?wq); (case wh => walk_at "n"))
  | ((with_reducible refine' W.w_listL ?wh ?wq); (case wh => walk_at "f"))
  | ((with_reducible refine' W.w_tupL ?wh ?wq); (case wh => walk_at "f"))
  | ((with_reducible refine' W.w_slL ?wh ?wq); (case wh => walk_at "f"))
  | ((with_reducible refine' W.w_cat ?wh ?wf ?we ?wq); (case wh => walk_at "f"); (case wf => walk_at "f"); (case we => walk_at "n"))
  | ((with_reducible refine' W.w_catT ?wh ?wf ?wx ?wy ?we ?wq); (case wh => walk_at "f"); (case wf => walk_at "f"); (case wx => exact List.cons_ne_nil _ _); (case wy => exact List.cons_ne_nil _ _); (case we => walk_at "n"))
  | ((with_reducible refine' W.w_ext ?wh ?wf ?we ?wq); (case wh => walk_at "f"); (case wf => walk_at "f"); (case we => walk_at "n"))
  | ((with_reducible refine' W.w_recv ?wh ?wq); (case wh => walk_at "f"))
  | ((with_reducible refine' W.w_isi1 ?wh ?we ?wq); (case wh => assumption); (case we => decide +kernel))
  | ((with_reducible refine' W.w_isi0 ?wh ?we ?wq); (case wh => assumption); (case we => decide +kernel))
  | ((with_reducible refine' W.w_isiT10 ?wh ?wf ?we ?wg ?wq); (case wh => assumption); (case wf => walk_at "f"); (case we => decide +kernel); (case wg => decide +kernel))
  | ((with_reducible refine' W.w_isiT01 ?wh ?wf ?we ?wg ?wq); (case wh => assumption); (case wf => walk_at "f"); (case we => decide +kernel); (case wg => decide +kernel))
  | ((with_reducible refine' W.w_isiT00 ?wh ?wf ?we ?wg ?wq); (case wh => assumption); (case wf => walk_at "f"); (case we => decide +kernel); (case wg => decide +kernel))
  | ((with_reducible refine' W.w_ins ?wh ?we ?wf ?wq); (case wh => walk_at "f"); (case we => walk_at "n"); (case wf => walk_at "c"))
  | ((with_reducible refine' W.w_unl ?wh ?we ?wq); (case wh => walk_at "f"); (case we => first | assumption | rfl))
  | ((with_reducible refine' W.ite_T ?_))
  | ((with_reducible refine' W.ite_F ?_))
  | ((with_reducible refine' W.ite_nT ?_))
  | ((with_reducible refine' W.ite_nF ?_))
  | ((with_reducible refine' W.ite_self ?_))
  | ((with_reducible refine' W.ite_nself ?_))
  | ((with_reducible refine' W.ite_tf ?_))
  | ((with_reducible refine' W.ite_ft ?_))
  | ((with_reducible refine' W.ite_ntf ?_))
  | ((with_reducible refine' W.ite_nft ?_))
  | ((with_reducible refine' And.intro ?wl ?wq); (case wl => rfl)))
local macro_rules | `(tactic| walk_at "i") => `(tactic| try (dsimp only [L2.cxOf, L2.wipe, List.map, List.set]))
local macro_rules | `(tactic| walk_at "s") => `(tactic| first | walk_at "v" | walk_at "e" | walk_at "w")
local macro_rules | `(tactic| walk_at "r") => `(tactic| repeat walk_at "s")

namespace My
open PySem L2 W
variable {P : Program} {w : World} {K : PySem.W.Frag} {mg : Str → Option Value} {base : Heap} {A : Adr}
theorem at_ds0 {ds : List Int} {p : Nat} (hp : p < ds.length) : atI (ds.map V.int) (p : Int) = some (.int (ds.getD p 0)) := by
  have := at_ds (p := p) (i := 0) (by simpa using hp)
  simpa using this
theorem nn_ds {ds : List Int} {p : Nat} (hn : ∀ b ∈ ds, 0 ≤ b) (hp : p < ds.length) : 0 ≤ ds.getD p 0 := by
  rw [List.getD_eq_getElem?_getD, List.getElem?_eq_getElem hp]
  exact hn _ (List.getElem_mem hp)
theorem pch_yes {ds : List Int} {p : Nat} (hp : p < ds.length) : pch ds p = if 2 ≤ ds.getD p 0 then none else some (ds.getD p 0, p + 1) := by unfold pch; rw [pbyte_yes hp]; rfl
theorem pch_no {ds : List Int} {p : Nat} (hp : ¬ p < ds.length) : pch ds p = none := by unfold pch; rw [pbyte_no hp]; rfl
/-- items read one after another into a list, by the law -/
def ManyL {α : Type} (P : Rdr α) (Val : Hp → α → V → Prop) (H : Hp) (ds : List Int) (p : Nat) (D : Addr) (i q : Nat) (H' : Hp) : Prop :=
  ∃ (us : List V) (l : List α), Keep [] H H' ∧ H' D = some (.lst us) ∧ pmany (P ds) i p = some (l, q) ∧ Paired (fun v a => Val H' a v) us l
theorem ManyL.next {α : Type} {P : Rdr α} {Val : Hp → α → V → Prop} (sy : Stays Val) {H H3 H4 H5 : Hp} {D : Addr} {ds : List Int} {p q q2 i : Nat} {us : List V} {l : List α} {a : α} {v : V} (nD : H D = none)
    (k3 : Keep [] H H3) (hm : pmany (P ds) i p = some (l, q)) (hp : Paired (fun v a => Val H3 a v) us l) (ha : P ds q = some (a, q2)) (k4 : Keep [] H3 H4) (hv : Val H4 a v) (k5 : Keep [D] H4 H5) (h5 : H5 D = some (.lst (us ++ [v]))) :
    ManyL P Val H ds p D (i + 1) q2 H5 :=
  ⟨us ++ [v], l ++ [a], (k3.trans k4).mut nD k5, h5, pmany_step _ hm ha, Paired.snoc (Paired.mapP hp fun _ _ h => sy _ _ _ _ _ h ((k4.any (S := [D])).trans k5)) (sy _ _ _ _ _ hv k5)⟩
theorem ok__law_read_deed (e : Env K mg A) : FnOk P w K mg base CX0 3 A.f__law_read_deed A.d__law_read_deed ["data", "at"] (spL pdd vD) := by
  have G__law_read_number := ok__law_read_number (P := P) (w := w) (base := base) e
  have G__law_read_text := ok__law_read_text (P := P) (w := w) (base := base) e
  have G__law_read_mark := ok__law_read_mark (P := P) (w := w) (base := base) e
  refine e.F__law_read_deed.ok sc__law_read_deed (fun vs H Q E h => ?_) (fun cdv AA outer s H vs Q E hr h => ?_)
  · obtain ⟨a, ds, p, rfl, _⟩ := h
    rfl
  · obtain ⟨a, ds, p, rfl, ha, hl, hn, q⟩ := h
    refine ⟨_, (pss_cons (ps_if (PW.pt (pw_or (pt_cmpR op_ge (pv 1) (pe_callB (call_lenLK (K := K)) (by rfl) e.n_len (by decide +kernel) (pa_cons (pv 0) pa_nil)) (nomark _)) (pw_or1 (pt_cmpR op_gt (pe_ix (ix_listK (K := K)) (pv 0) (pv 1) (fun _ _ => rfl)) pe_int (nomark _))))) (pss_one (ps_ret pe_non)) pss_nil)
    (pss_cons (ps_if (pt_cmpR op_eq (pe_ix (ix_listK (K := K)) (pv 0) (pv 1) (fun _ _ => rfl)) pe_int (nomark _)) (pss_cons (ps_set (i := 2) sc__law_read_deed.nd rfl (Or.inl rfl) (pe_call G__law_read_number (hr.mono (by omega)) (by rfl) e.m__law_read_number e.k__law_read_number e.b__law_read_number .nil pass0 (pa_cons (pv 0) (pa_cons (pe_op op_add (pv 1) pe_int) pa_nil))))
    (pss_one (ps_ret (pe_ifExp (pt_cmpR op_isNo (pv 2) pe_non (nomark _)) pe_non (pe_tup (pa_cons (pe_tup (pa_cons pe_str (pa_cons (pe_ix (ix_tupK (K := K)) (pv 2) pe_int (fun _ _ => rfl)) pa_nil))) (pa_cons (pe_ix (ix_tupK (K := K)) (pv 2) pe_int (fun _ _ => rfl)) pa_nil))))))) pss_nil)
    (pss_cons (ps_set (i := 3) sc__law_read_deed.nd rfl (Or.inl rfl) (pe_call G__law_read_text (hr.mono (by omega)) (by rfl) e.m__law_read_text e.k__law_read_text e.b__law_read_text .nil pass0 (pa_cons (pv 0) (pa_cons (pe_op op_add (pv 1) pe_int) pa_nil))))
    (pss_cons (ps_set (i := 4) sc__law_read_deed.nd rfl (Or.inl rfl) (pe_ifExp (pt_cmpR op_isNo (pv 3) pe_non (nomark _)) pe_non (pe_call G__law_read_number (hr.mono (by omega)) (by rfl) e.m__law_read_number e.k__law_read_number e.b__law_read_number .nil pass0 (pa_cons (pv 0) (pa_cons (pe_ix (ix_tupK (K := K)) (pv 3) pe_int (fun _ _ => rfl)) pa_nil)))))
    (pss_cons (ps_if (PW.pt (pw_or (pt_cmpR op_isNo (pv 4) pe_non (nomark _)) (pw_or1 (pt_cmpR op_gt (pe_ix (ix_tupK (K := K)) (pv 4) pe_int (fun _ _ => rfl)) (pe_op op_sub (pe_callB (call_lenLK (K := K)) (by rfl) e.n_len (by decide +kernel) (pa_cons (pv 0) pa_nil)) (pe_ix (ix_tupK (K := K)) (pv 4) pe_int (fun _ _ => rfl))) (nomark _))))) (pss_one (ps_ret pe_non)) pss_nil)
    (pss_cons (ps_set (i := 1) sc__law_read_deed.nd rfl (Or.inl rfl) (pe_ix (ix_tupK (K := K)) (pv 4) pe_int (fun _ _ => rfl)))
    (pss_cons (ps_set (i := 5) sc__law_read_deed.nd rfl (Or.inl rfl) (pe_lst pa_nil))
    (pss_cons (ps_for PassesOwn.never rfl (pi_range1 rfl e.n_range (pa_cons (pe_ix (ix_tupK (K := K)) (pv 4) pe_int (fun _ _ => rfl)) pa_nil)) (pg_name (i := 6) sc__law_read_deed.nd rfl (Or.inl rfl)) (pss_cons (ps_set (i := 2) sc__law_read_deed.nd rfl (Or.inl rfl) (pe_call G__law_read_mark (hr.mono (by omega)) (by rfl) e.m__law_read_mark e.k__law_read_mark e.b__law_read_mark .nil pass0 (pa_cons (pv 0) (pa_cons (pv 1) pa_nil))))
    (pss_cons (ps_if (pt_cmpR op_isNo (pv 2) pe_non (nomark _)) (pss_one (ps_ret pe_non)) pss_nil)
    (pss_cons (ps_expr (pe_bmK (K := K) PySem.F.plainAttrs_list PySem.F.slot_list_append PySem.F.type_list_append mt_append (pv 5) (pa_cons (pe_ix (ix_tupK (K := K)) (pv 2) pe_int (fun _ _ => rfl)) pa_nil)))
    (pss_one (ps_set (i := 1) sc__law_read_deed.nd rfl (Or.inl rfl) (pe_ix (ix_tupK (K := K)) (pv 2) pe_int (fun _ _ => rfl))))))))
    (pss_cons (ps_if (PW.pt (pw_or (pt_cmpR op_ge (pv 1) (pe_callB (call_lenLK (K := K)) (by rfl) e.n_len (by decide +kernel) (pa_cons (pv 0) pa_nil)) (nomark _)) (pw_or1 (pt_cmpR op_gt (pe_ix (ix_listK (K := K)) (pv 0) (pv 1) (fun _ _ => rfl)) pe_int (nomark _))))) (pss_one (ps_ret pe_non)) pss_nil)
    (Evl.pss_cut (ps_set (i := 7) sc__law_read_deed.nd rfl (Or.inl rfl) (pe_ifExp (pt_cmpR op_eq (pe_ix (ix_listK (K := K)) (pv 0) (pv 1) (fun _ _ => rfl)) pe_int (nomark _)) (pe_tup (pa_cons pe_non (pa_cons (pe_op op_add (pv 1) pe_int) pa_nil))) (pe_call G__law_read_mark (hr.mono (by omega)) (by rfl) e.m__law_read_mark e.k__law_read_mark e.b__law_read_mark .nil pass0 (pa_cons (pv 0) (pa_cons (pe_op op_add (pv 1) pe_int) pa_nil)))))
    (pss_cons (ps_set (i := 8) sc__law_read_deed.nd rfl (Or.inl rfl) (pe_ifExp (pt_cmpR op_isNo (pv 7) pe_non (nomark _)) pe_non (pe_call G__law_read_number (hr.mono (by omega)) (by rfl) e.m__law_read_number e.k__law_read_number e.b__law_read_number .nil pass0 (pa_cons (pv 0) (pa_cons (pe_ix (ix_tupK (K := K)) (pv 7) pe_int (fun _ _ => rfl)) pa_nil)))))
    (pss_cons (ps_set (i := 9) sc__law_read_deed.nd rfl (Or.inl rfl) (pe_ifExp (pt_cmpR op_isNo (pv 8) pe_non (nomark _)) pe_non (pe_call G__law_read_text (hr.mono (by omega)) (by rfl) e.m__law_read_text e.k__law_read_text e.b__law_read_text .nil pass0 (pa_cons (pv 0) (pa_cons (pe_ix (ix_tupK (K := K)) (pv 8) pe_int (fun _ _ => rfl)) pa_nil)))))
    (pss_one (ps_ret (pe_ifExp (pt_cmpR op_isNo (pv 9) pe_non (nomark _)) pe_non (pe_tup (pa_cons (pe_tup (pa_cons pe_str (pa_cons (pe_ix (ix_tupK (K := K)) (pv 3) pe_int (fun _ _ => rfl)) (pa_cons (pe_callTy (call_tupleLK (K := K)) (by rfl) e.n_tuple (by decide +kernel) (pa_cons (pv 5) pa_nil)) (pa_cons (pe_ix (ix_tupK (K := K)) (pv 7) pe_int (fun _ _ => rfl)) (pa_cons (pe_ix (ix_tupK (K := K)) (pv 8) pe_int (fun _ _ => rfl)) (pa_cons (pe_ix (ix_tupK (K := K)) (pv 9) pe_int (fun _ _ => rfl)) pa_nil))))))) (pa_cons (pe_ix (ix_tupK (K := K)) (pv 9) pe_int (fun _ _ => rfl)) pa_nil)))))))))))))))))), ?_⟩
    refine enter (st__law_read_deed _ _) ?_
    walk_at "i"
    walk_at "r"
    rw [List.length_map]
    refine ite_dec (fun h1 => ?_) (fun h1 => ?_)
    · walk_at "r"
      exact q _ H Keep.refl (oV_no (by unfold pdd; rw [pch_no (by omega)]; rfl))
    have hp : p < ds.length := by omega
    have hat := at_ds0 hp
    have hc := pch_yes hp
    generalize ds.getD p 0 = b at hat hc
    walk_at "r"
    refine ite_dec (fun h2 => ?_) (fun h2 => ?_)
    · walk_at "r"
      exact q _ H Keep.refl (oV_no (by unfold pdd; rw [hc, if_pos (by omega)]; rfl))
    rw [if_neg (by omega)] at hc
    walk_at "r"
    refine ite_dec (fun h3 => ?_) (fun h3 => ?_)
    · have e1 := pdd_1 hc h3
      walk_at "r"
      refine ⟨a, ds, p + 1, rfl, ha, hl, hn, fun v H1 k1 hv => ?_⟩
      cases hz : pnum ds (p + 1) with
      | none =>
        rw [hz] at hv
        obtain rfl : v = .non := hv
        walk_at "r"
        exact q _ H1 k1 (oV_no (by rw [e1, hz]; rfl))
      | some z =>
        obtain ⟨n, q1⟩ := z
        rw [hz] at hv
        obtain ⟨t, u, rfl, ht, rfl⟩ := hv
        walk_at "r"
        intro t3 H3 n3 k3 ht3
        walk_at "r"
        intro t4 H4 n4 k4 ht4
        exact q _ H4 (k1.trans (k3.trans k4)) (oV_yes (a := .back n) (by rw [e1, hz]; rfl) ht4 (show vD H4 (.back n) _ from ⟨t3, rfl, k4.get ht3 (by simp)⟩))
    have e1 := pdd_0 hc h3
    walk_at "r"
    refine ⟨a, ds, p + 1, rfl, ha, hl, hn, fun v H1 k1 hv => ?_⟩
    cases hz : pstr ds (p + 1) with
    | none =>
      rw [hz] at hv
      obtain rfl : v = .non := hv
      walk_at "r"
      exact q _ H1 k1 (oV_no (by rw [e1, hz]; rfl))
    | some z =>
      obtain ⟨m, q1⟩ := z
      rw [hz] at hv
      obtain ⟨tm, u, rfl, htm, rfl⟩ := hv
      have e2 : pdd ds p = pdd2 ds m q1 := by rw [e1, hz]; rfl
      clear e1 hz hc hat
      walk_at "r"
      refine ⟨a, ds, q1, rfl, k1.get ha (by simp), hl, hn, fun v H2 k2 hv => ?_⟩
      cases hz : pnum ds q1 with
      | none =>
        rw [hz] at hv
        obtain rfl : v = .non := hv
        walk_at "r"
        exact q _ H2 (k1.trans k2) (oV_no (by rw [e2]; unfold pdd2 plist pcnt; rw [hz]; rfl))
      | some z =>
        obtain ⟨n, q2⟩ := z
        rw [hz] at hv
        obtain ⟨tc, u, rfl, htc, rfl⟩ := hv
        have hcn : pcnt ds q1 = if ds.length < n + q2 then none else some (n, q2) := by unfold pcnt; rw [hz]; rfl
        have ha2 := (k1.trans k2).get ha (by simp)
        have htm2 := k2.get htm (by simp)
        have k12 := k1.trans k2
        clear htm k1 k2 hz
        walk_at "r"
        rw [List.length_map]
        refine ite_dec (fun h4 => ?_) (fun h4 => ?_)
        · walk_at "r"
          exact q _ H2 k12 (oV_no (by rw [e2]; unfold pdd2 plist; rw [hcn, if_pos (by omega)]; rfl))
        rw [if_neg (by omega)] at hcn
        have e3 : plist pmk ds q1 = pmany (pmk ds) n q2 := by unfold plist; rw [hcn]; rfl
        walk_at "r"
        intro M H3 nM k3 hM
        have ha3 := k3.get ha2 (by simp)
        have htm3 := k3.get htm2 (by simp)
        have htc3 := k3.get htc (by simp)
        have k13 := k12.trans k3
        clear ha2 htc hcn
        walk_at "r"
        refine forR1 (by omega) (by omega) (fun i σ H' => ∃ (v2 v6 : Option V) (q' : Nat), σ = [some (.ref a), some (.int (q' : Int)), v2, some (.ref tm), some (.ref tc), some (.ref M), v6, none, none, none] ∧ ManyL pmk vM H2 ds q2 M i q' H')
          ⟨_, _, q2, rfl, [], [], k3, hM, rfl, Paired.nil⟩ ?_ ?_
        · rintro i σ H4 hi ⟨v2, v6, q', rfl, us, l, k4, hM4, hmm, hpd⟩
          have hul : us.length = i := by rw [Paired.length hpd, pmany_len _ hmm]
          have ha4 := (k12.trans k4).get ha (by simp)
          walk_at "r"
          refine ⟨a, ds, q', rfl, ha4, hl, hn, fun v H5 k5 hv => ?_⟩
          cases hz2 : pmk ds q' with
          | none =>
            rw [hz2] at hv
            obtain rfl : v = .non := hv
            walk_at "r"
            exact q _ H5 (k12.trans (k4.trans k5)) (oV_no (by rw [e2]; unfold pdd2; rw [e3, pmany_stop (pmk ds) hmm hz2 (by omega)]; rfl))
          | some z =>
            obtain ⟨mk, q3⟩ := z
            rw [hz2] at hv
            obtain ⟨t2, u2, rfl, ht2, hu2⟩ := hv
            have hM5 := k5.get hM4 (by simp)
            walk_at "r"
            intro H6 k6 h6
            have ht6 := k6.2 _ _ ht2
            walk_at "r"
            exact ⟨_, _, q3, rfl, ManyL.next stays_M nM k4 hmm hpd hz2 k5 hu2 k6 h6⟩
        · rintro σ H4 ⟨v2, v6, q3, rfl, us, rm, k4, hM4, hmm, hpd⟩
          simp only [Int.toNat_natCast] at hmm
          rw [← e3] at hmm
          have hul : us.length ≤ 1000000 := by
            have := plist_len hmm
            rw [show us.length = rm.length from Paired.length hpd]; omega
          have e4 : pdd ds p = pdd3 ds m rm q3 := by rw [e2]; unfold pdd2; rw [hmm]; rfl
          have ha4 := (k12.trans k4).get ha (by simp)
          have htm4 := k4.get htm2 (by simp)
          have k14 := k12.trans k4
          clear htm2 htm3 htc3 ha3 e2 e3 k12 k4 k3 k13 hM nM hmm
          walk_at "r"
          rw [List.length_map]
          refine ite_dec (fun h1 => ?_) (fun h1 => ?_)
          · walk_at "r"
            exact q _ H4 k14 (oV_no (by rw [e4]; unfold pdd3 pbh; rw [pch_no (by omega)]; rfl))
          have hp : q3 < ds.length := by omega
          have hat := at_ds0 hp
          have hc := pch_yes hp
          have hb0 := nn_ds hn hp
          generalize ds.getD q3 0 = b at hat hc hb0
          walk_at "r"
          refine ite_dec (fun h2 => ?_) (fun h2 => ?_)
          · walk_at "r"
            exact q _ H4 k14 (oV_no (by rw [e4]; unfold pdd3 pbh; rw [hc, if_pos (by omega)]; rfl))
          rw [if_neg (by omega)] at hc
          walk_at "r"
          refine s_cut (fun σ' H' => ∃ v7, σ' = [some (.ref a), some (.int (q3 : Int)), v2, some (.ref tm), some (.ref tc), some (.ref M), v6, some v7, none, none] ∧ Keep [] H4 H' ∧ oV vB H' (pbh ds q3) v7) ?_ ?_
          · walk_at "i"
            walk_at "r"
            refine ite_dec (fun h3 => ?_) (fun h3 => ?_)
            · walk_at "r"
              intro t5 H5 n5 k5 ht5
              walk_at "r"
              exact ⟨_, rfl, k5, oV_yes (pbh_0 hc (by omega)) ht5 rfl⟩
            · have e5 := pbh_1 hc (by omega)
              walk_at "r"
              refine ⟨a, ds, q3 + 1, rfl, ha4, hl, hn, fun v H5 k5 hv => ?_⟩
              walk_at "r"
              refine ⟨v, rfl, k5, ?_⟩
              rw [e5]
              cases hz : pmk ds (q3 + 1) with
              | none => rw [hz] at hv; exact hv
              | some z => rw [hz] at hv; exact hv
          · rintro σ' H5 ⟨v7, rfl, k5, hv7⟩
            have ha5 := k5.get ha4 (by simp)
            have htm5 := k5.get htm4 (by simp)
            have hM5 := k5.get hM4 (by simp)
            have hpd5 := vMs.keep (show vMs H4 rm us from hpd) k5
            have k15 := k14.trans k5
            clear ha4 htm4 hM4 hpd k5 k14 hat hc
            cases hz : pbh ds q3 with
            | none =>
              rw [hz] at hv7
              obtain rfl : v7 = .non := hv7
              walk_at "r"
              exact q _ H5 k15 (oV_no (by rw [e4]; unfold pdd3; rw [hz]; rfl))
            | some z =>
              obtain ⟨bh, q4⟩ := z
              rw [hz] at hv7
              obtain ⟨tb, bv, rfl, htb, hB⟩ := hv7
              have e5 : pdd ds p = pdd4 ds m rm bh q4 := by rw [e4]; unfold pdd3; rw [hz]; rfl
              clear e4 hz
              walk_at "r"
              refine ⟨a, ds, q4, rfl, ha5, hl, hn, fun v H6 k6 hv => ?_⟩
              cases hz : pnum ds q4 with
              | none =>
                rw [hz] at hv
                obtain rfl : v = .non := hv
                walk_at "r"
                exact q _ H6 (k15.trans k6) (oV_no (by rw [e5]; unfold pdd4; rw [hz]; rfl))
              | some z =>
                obtain ⟨num, q5⟩ := z
                rw [hz] at hv
                obtain ⟨tn, u, rfl, htn, rfl⟩ := hv
                have e6 : pdd ds p = pdd5 ds m rm bh num q5 := by rw [e5]; unfold pdd4; rw [hz]; rfl
                have ha6 := k6.get ha5 (by simp)
                clear e5 hz ha5
                walk_at "r"
                refine ⟨a, ds, q5, rfl, ha6, hl, hn, fun v H7 k7 hv => ?_⟩
                cases hz : pstr ds q5 with
                | none =>
                  rw [hz] at hv
                  obtain rfl : v = .non := hv
                  walk_at "r"
                  exact q _ H7 (k15.trans (k6.trans k7)) (oV_no (by rw [e6]; unfold pdd5; rw [hz]; rfl))
                | some z =>
                  obtain ⟨tt, q6⟩ := z
                  rw [hz] at hv
                  obtain ⟨tx_, u, rfl, htx, rfl⟩ := hv
                  have k67 := k6.trans k7
                  have htm7 := k67.get htm5 (by simp)
                  have hM7 := k67.get hM5 (by simp)
                  have htb7 := k67.get htb (by simp)
                  have htn7 := k7.get htn (by simp)
                  have hpd7 := vMs.keep hpd5 k67
                  have hB7 := vB.keep hB k67
                  have k17 := k15.trans k67
                  clear htm5 hM5 htb htn hpd5 hB k67 k15 k6 k7 ha6
                  walk_at "r"
                  intro t8 H8 n8 k8 ht8
                  have htm8 := k8.get htm7 (by simp)
                  have htb8 := k8.get htb7 (by simp)
                  have htn8 := k8.get htn7 (by simp)
                  have htx8 := k8.get htx (by simp)
                  walk_at "r"
                  intro t9 H9 n9 k9 ht9
                  have htx9 := k9.get htx8 (by simp)
                  walk_at "r"
                  intro t10 H10 n10 k10 ht10
                  have k810 := k8.trans (k9.trans k10)
                  exact q _ H10 (k17.trans k810) (oV_yes (a := .chg m rm bh num tt) (by rw [e6]; unfold pdd5; rw [hz]; rfl) ht10
                    (show vD H10 (.chg m rm bh num tt) _ from ⟨t9, t8, us, bv, rfl, k10.get ht9 (by simp), (k9.trans k10).get ht8 (by simp), vMs.keep hpd7 k810, vB.keep hB7 k810⟩))
theorem ok__law_read_triples (e : Env K mg A) : FnOk P w K mg base CX0 4 A.f__law_read_triples A.d__law_read_triples ["data", "at"] (spL ptrs vTl) := by
  have G__law_read_number := ok__law_read_number (P := P) (w := w) (base := base) e
  have G__law_read_mark := ok__law_read_mark (P := P) (w := w) (base := base) e
  have G__law_read_deed := ok__law_read_deed (P := P) (w := w) (base := base) e
  refine e.F__law_read_triples.ok sc__law_read_triples (fun vs H Q E h => ?_) (fun cdv AA outer s H vs Q E hr h => ?_)
  · obtain ⟨a, ds, p, rfl, _⟩ := h
    rfl
  · obtain ⟨a, ds, p, rfl, ha, hl, hn, q⟩ := h
    refine ⟨_, (pss_cons (ps_set (i := 2) sc__law_read_triples.nd rfl (Or.inl rfl) (pe_call G__law_read_number (hr.mono (by omega)) (by rfl) e.m__law_read_number e.k__law_read_number e.b__law_read_number .nil pass0 (pa_cons (pv 0) (pa_cons (pv 1) pa_nil))))
    (pss_cons (ps_if (PW.pt (pw_or (pt_cmpR op_isNo (pv 2) pe_non (nomark _)) (pw_or1 (pt_cmpR op_gt (pe_ix (ix_tupK (K := K)) (pv 2) pe_int (fun _ _ => rfl)) (pe_op op_sub (pe_callB (call_lenLK (K := K)) (by rfl) e.n_len (by decide +kernel) (pa_cons (pv 0) pa_nil)) (pe_ix (ix_tupK (K := K)) (pv 2) pe_int (fun _ _ => rfl))) (nomark _))))) (pss_one (ps_ret pe_non)) pss_nil)
    (pss_cons (ps_set (i := 1) sc__law_read_triples.nd rfl (Or.inl rfl) (pe_ix (ix_tupK (K := K)) (pv 2) pe_int (fun _ _ => rfl)))
    (pss_cons (ps_set (i := 3) sc__law_read_triples.nd rfl (Or.inl rfl) (pe_lst pa_nil))
    (pss_cons (ps_for PassesOwn.never rfl (pi_range1 rfl e.n_range (pa_cons (pe_ix (ix_tupK (K := K)) (pv 2) pe_int (fun _ _ => rfl)) pa_nil)) (pg_name (i := 4) sc__law_read_triples.nd rfl (Or.inl rfl)) (pss_cons (ps_set (i := 5) sc__law_read_triples.nd rfl (Or.inl rfl) (pe_call G__law_read_mark (hr.mono (by omega)) (by rfl) e.m__law_read_mark e.k__law_read_mark e.b__law_read_mark .nil pass0 (pa_cons (pv 0) (pa_cons (pv 1) pa_nil))))
    (pss_cons (ps_set (i := 6) sc__law_read_triples.nd rfl (Or.inl rfl) (pe_ifExp (pt_cmpR op_isNo (pv 5) pe_non (nomark _)) pe_non (pe_call G__law_read_deed (hr.mono (by omega)) (by rfl) e.m__law_read_deed e.k__law_read_deed e.b__law_read_deed .nil pass0 (pa_cons (pv 0) (pa_cons (pe_ix (ix_tupK (K := K)) (pv 5) pe_int (fun _ _ => rfl)) pa_nil)))))
    (pss_cons (ps_if (pt_cmpR op_isNo (pv 6) pe_non (nomark _)) (pss_one (ps_ret pe_non)) pss_nil)
    (pss_cons (ps_expr (pe_bmK (K := K) PySem.F.plainAttrs_list PySem.F.slot_list_append PySem.F.type_list_append mt_append (pv 3) (pa_cons (pe_op (op_catTK (K := K)) (pe_ix (ix_tupK (K := K)) (pv 5) pe_int (fun _ _ => rfl)) (pe_tup (pa_cons (pe_ix (ix_tupK (K := K)) (pv 6) pe_int (fun _ _ => rfl)) pa_nil))) pa_nil)))
    (pss_one (ps_set (i := 1) sc__law_read_triples.nd rfl (Or.inl rfl) (pe_ix (ix_tupK (K := K)) (pv 6) pe_int (fun _ _ => rfl)))))))))
    (pss_one (ps_ret (pe_tup (pa_cons (pv 3) (pa_cons (pv 1) pa_nil)))))))))), ?_⟩
    refine enter (st__law_read_triples _ _) ?_
    walk_at "i"
    walk_at "r"
    refine ⟨a, ds, p, rfl, ha, hl, hn, fun v H2 k2 hv => ?_⟩
    cases hz : pnum ds p with
    | none =>
      rw [hz] at hv
      obtain rfl : v = .non := hv
      walk_at "r"
      exact q _ H2 k2 (oV_no (by unfold ptrs plist pcnt; rw [hz]; rfl))
    | some z =>
      obtain ⟨n, q2⟩ := z
      rw [hz] at hv
      obtain ⟨tc, u, rfl, htc, rfl⟩ := hv
      have hcn : pcnt ds p = if ds.length < n + q2 then none else some (n, q2) := by unfold pcnt; rw [hz]; rfl
      have ha2 := k2.get ha (by simp)
      walk_at "r"
      rw [List.length_map]
      refine ite_dec (fun h4 => ?_) (fun h4 => ?_)
      · walk_at "r"
        exact q _ H2 k2 (oV_no (by unfold ptrs plist; rw [hcn, if_pos (by omega)]; rfl))
      rw [if_neg (by omega)] at hcn
      have e3 : ptrs ds p = pmany (ptr ds) n q2 := by unfold ptrs plist; rw [hcn]; rfl
      walk_at "r"
      intro M H3 nM k3 hM
      have ha3 := k3.get ha2 (by simp)
      have htc3 := k3.get htc (by simp)
      clear htc hcn hz
      walk_at "r"
      refine forR1 (by omega) (by omega) (fun i σ H' => ∃ (v4 v5 v6 : Option V) (q' : Nat), σ = [some (.ref a), some (.int (q' : Int)), some (.ref tc), some (.ref M), v4, v5, v6] ∧ ManyL ptr vT H2 ds q2 M i q' H')
        ⟨_, _, _, q2, rfl, [], [], k3, hM, rfl, Paired.nil⟩ ?_ ?_
      · rintro i σ H4 hi ⟨v4, v5, v6, q', rfl, us, l, k4, hM4, hmm, hpd⟩
        have hul : us.length = i := by rw [Paired.length hpd, pmany_len _ hmm]
        have ha4 := (k2.trans k4).get ha (by simp)
        have fail : ptr ds q' = none → ∀ H', Keep [] H4 H' → Q .non H' := fun hf H' k => q _ H' (k2.trans (k4.trans k)) (oV_no (by rw [e3]; exact pmany_stop (ptr ds) hmm hf (by omega)))
        clear ha3 htc3 ha2
        walk_at "r"
        refine ⟨a, ds, q', rfl, ha4, hl, hn, fun v H5 k5 hv => ?_⟩
        have e1 : ptr ds q' = (pmk ds q').bind fun y => (pdd ds y.2).map fun d => (⟨y.1.1, y.1.2, d.1⟩, d.2) := by
          unfold ptr pmk
          cases pnum ds q' with
          | none => rfl
          | some y =>
            simp only [Option.bind_some]
            cases pnum ds y.2 with
            | none => rfl
            | some z => rfl
        cases hz2 : pmk ds q' with
        | none =>
          rw [hz2] at hv
          obtain rfl : v = .non := hv
          walk_at "r"
          exact fail (by rw [e1, hz2]; rfl) H5 k5
        | some z =>
          obtain ⟨mk, q3⟩ := z
          rw [hz2] at hv
          obtain ⟨t2, u2, rfl, ht2, tm, rfl, htm⟩ := hv
          have ha5 := k5.get ha4 (by simp)
          walk_at "r"
          refine ⟨a, ds, q3, rfl, ha5, hl, hn, fun v H6 k6 hv => ?_⟩
          cases hz3 : pdd ds q3 with
          | none =>
            rw [hz3] at hv
            obtain rfl : v = .non := hv
            walk_at "r"
            exact fail (by rw [e1, hz2]; simp only [Option.bind_some]; rw [hz3]; rfl) H6 (k5.trans k6)
          | some z =>
            obtain ⟨dd, q4⟩ := z
            rw [hz3] at hv
            obtain ⟨t4, u4, rfl, ht4, hd4⟩ := hv
            have hM6 := (k5.trans k6).get hM4 (by simp)
            have ht26 := k6.get ht2 (by simp)
            have htm6 := k6.get htm (by simp)
            clear ht2 htm ha5 ha4 hM4
            walk_at "r"
            intro t5 H7 n7 k7 ht5
            have hM7 := k7.get hM6 (by simp)
            have ht27 := k7.get ht26 (by simp)
            have htm7 := k7.get htm6 (by simp)
            have ht47 := k7.get ht4 (by simp)
            clear hM6 ht26 htm6 ht4
            walk_at "r"
            intro t8 H8 n8 k8 ht8
            have hM8 := k8.get hM7 (by simp)
            have ht48 := k8.get ht47 (by simp)
            walk_at "r"
            intro H9 k9 h9
            have ht49 := k9.2 _ _ ht48
            walk_at "r"
            exact ⟨_, _, _, q4, rfl, ManyL.next (a := (⟨mk.1, mk.2, dd⟩ : Tri)) stays_T nM k4 hmm hpd (by rw [e1, hz2]; simp only [Option.bind_some]; rw [hz3]; rfl) (k5.trans (k6.trans (k7.trans k8))) ⟨t8, u4, rfl, ht8, vD.keep hd4 (k7.trans k8)⟩ k9 h9⟩
      · rintro σ H4 ⟨v4, v5, v6, q3, rfl, us, ts, k4, hM4, hmm, hpd⟩
        simp only [Int.toNat_natCast] at hmm
        walk_at "r"
        intro t5 H5 n5 k5 ht5
        exact q _ H5 (k2.trans (k4.trans k5)) (oV_yes (by rw [e3]; exact hmm) ht5 ⟨M, us, rfl, k5.get hM4 (by simp), vTs.keep hpd k5⟩)
end My

end
section
set_option maxHeartbeats 4000000
/-! what is read, as plain data -/
namespace My
open PySem L2 W
def pdM (m : Nat × Nat) : PyData := .tuple [.int (m.1 : Int), .int (m.2 : Int)]
def pdB : Option (Nat × Nat) → PyData
  | none => .none
  | some m => pdM m
def pdD : Dd → PyData
  | .back n => .tuple [.str "back", .int (n : Int)]
  | .chg m rm bh n t => .tuple [.str "change", .str (tx m), .tuple (rm.map pdM), pdB bh, .int (n : Int), .str (tx t)]
def pdT (t : Tri) : PyData := .tuple [.int (t.r : Int), .int (t.p : Int), pdD t.d]
def pdTl (ts : List Tri) : PyData := .list (ts.map pdT)
theorem daL_pd {α : Type} {H : Hp} {Val : α → V → Prop} {f : α → PyData} (hv : ∀ a v, Val a v → Da H (f a) v) : ∀ {us : List V} {l : List α}, Paired (fun v a => Val a v) us l → DaL H (l.map f) us := by
  intro us l h
  induction h with
  | nil => exact DaL.nil
  | cons h _ ih => exact DaL.cons (hv _ _ h) ih
theorem vM.da {H : Hp} {m : Nat × Nat} {v : V} (h : vM H m v) : Da H (pdM m) v := by
  obtain ⟨t, rfl, ht⟩ := h
  exact Da.tup ht (DaL.cons Da.int (DaL.one Da.int))
theorem vB.da {H : Hp} {m : Option (Nat × Nat)} {v : V} (h : vB H m v) : Da H (pdB m) v := by
  cases m with
  | none => cases h; exact Da.non
  | some m => exact vM.da h
theorem vD.da {H : Hp} {d : Dd} {v : V} (h : vD H d v) : Da H (pdD d) v := by
  cases d with
  | back n =>
    obtain ⟨t, rfl, ht⟩ := h
    exact Da.tup ht (DaL.cons Da.str (DaL.one Da.int))
  | chg m rm bh n t =>
    obtain ⟨a, r, us, b, rfl, ha, hr, hM, hB⟩ := h
    exact Da.tup ha (DaL.cons Da.str (DaL.cons Da.str (DaL.cons (Da.tup hr (daL_pd (fun _ _ h => vM.da h) hM)) (DaL.cons (vB.da hB) (DaL.cons Da.int (DaL.one Da.str))))))
theorem vT.da {H : Hp} {t : Tri} {v : V} (h : vT H t v) : Da H (pdT t) v := by
  obtain ⟨a, b, rfl, ha, hb⟩ := h
  exact Da.tup ha (DaL.cons Da.int (DaL.cons Da.int (DaL.one (vD.da hb))))
theorem vTl.da {H : Hp} {ts : List Tri} {v : V} (h : vTl H ts v) : Da H (pdTl ts) v := by
  obtain ⟨a, us, rfl, ha, hv⟩ := h
  exact Da.lst ha (daL_pd (fun _ _ h => vT.da h) hv)
/-! how deep, how wide -/
theorem depL_le {ds : List PyData} {n : Nat} (h : ∀ d ∈ ds, dep d ≤ n) : depL ds ≤ n := by
  induction ds with
  | nil => exact Nat.zero_le _
  | cons a r ih =>
    have h1 := h a (by simp)
    have h2 := ih (fun d hd => h d (by simp [hd]))
    simp only [depL]; omega
theorem widL_le {ds : List PyData} {n : Nat} (h : ∀ d ∈ ds, wid d ≤ n) : widL ds ≤ n := by
  induction ds with
  | nil => exact Nat.zero_le _
  | cons a r ih =>
    have h1 := h a (by simp)
    have h2 := ih (fun d hd => h d (by simp [hd]))
    simp only [widL]; omega
theorem dep_M (m : Nat × Nat) : dep (pdM m) = 1 := rfl
theorem dep_B (m : Option (Nat × Nat)) : dep (pdB m) ≤ 1 := by
  cases m with
  | none => exact Nat.zero_le _
  | some m => exact Nat.le_of_eq (dep_M m)
theorem dep_D (d : Dd) : dep (pdD d) ≤ 3 := by
  cases d with
  | back n => show 0 + 1 ≤ 3; omega
  | chg m rm bh n t =>
    have h1 := depL_le (ds := rm.map pdM) (n := 1) (fun d hd => by obtain ⟨m, _, rfl⟩ := List.mem_map.mp hd; exact Nat.le_of_eq (dep_M m))
    have h2 := dep_B bh
    simp only [pdD, dep, depL]; omega
theorem dep_T (t : Tri) : dep (pdT t) ≤ 4 := by
  have := dep_D t.d
  simp only [pdT, dep, depL]; omega
theorem dep_Tl (ts : List Tri) : dep (pdTl ts) ≤ 5 := by
  have h1 := depL_le (ds := ts.map pdT) (n := 4) (fun d hd => by obtain ⟨m, _, rfl⟩ := List.mem_map.mp hd; exact dep_T m)
  simp only [pdTl, dep]; omega
theorem wid_M (m : Nat × Nat) : wid (pdM m) = 2 := rfl
theorem wid_B (m : Option (Nat × Nat)) : wid (pdB m) ≤ 2 := by
  cases m with
  | none => exact Nat.zero_le _
  | some m => exact Nat.le_of_eq (wid_M m)
def wdD : Dd → Nat
  | .back _ => 0
  | .chg _ rm _ _ _ => rm.length
theorem wid_D (d : Dd) : wid (pdD d) ≤ max 6 (wdD d) := by
  cases d with
  | back n => show max 2 0 ≤ max 6 0; decide
  | chg m rm bh n t =>
    have h1 := widL_le (ds := rm.map pdM) (n := 2) (fun d hd => by obtain ⟨m, _, rfl⟩ := List.mem_map.mp hd; exact Nat.le_of_eq (wid_M m))
    have h2 := wid_B bh
    simp only [pdD, wid, widL, wdD, List.length_map, List.length_cons, List.length_nil]; omega
theorem wid_T (t : Tri) : wid (pdT t) ≤ max 6 (wdD t.d) := by
  have := wid_D t.d
  simp only [pdT, wid, widL, List.length_cons, List.length_nil]; omega
theorem wid_Tl {ts : List Tri} {n : Nat} (h : ∀ t ∈ ts, wdD t.d ≤ n) (h2 : ts.length ≤ n) : wid (pdTl ts) ≤ max 6 n := by
  have h1 := widL_le (ds := ts.map pdT) (n := max 6 n) (fun d hd => by obtain ⟨m, hm, rfl⟩ := List.mem_map.mp hd; have := wid_T m; have := h m hm; omega)
  simp only [pdTl, wid, List.length_map]; omega
/-! what is read is no wider than the bytes -/
theorem pmany_mem {α : Type} (f : Nat → Option (α × Nat)) : ∀ {k p q : Nat} {l : List α}, pmany f k p = some (l, q) → ∀ a ∈ l, ∃ p q, f p = some (a, q)
  | 0, _, _, _, h, a, ha => by cases h; simp at ha
  | k + 1, p, q, l, h, a, ha => by
    have h : (f p).bind (fun z => (pmany f k z.2).map fun y => (z.1 :: y.1, y.2)) = some (l, q) := h
    cases hf : f p with
    | none => rw [hf] at h; cases h
    | some z =>
      rw [hf] at h
      have h : (pmany f k z.2).map (fun y => (z.1 :: y.1, y.2)) = some (l, q) := h
      cases hm : pmany f k z.2 with
      | none => rw [hm] at h; cases h
      | some y =>
        rw [hm] at h
        cases h
        rcases List.mem_cons.mp ha with rfl | ha
        · exact ⟨p, z.2, hf⟩
        · exact pmany_mem f hm a ha
theorem pdd_wd {ds : List Int} {p q : Nat} {d : Dd} (h : pdd ds p = some (d, q)) : wdD d ≤ ds.length := by
  cases d with
  | back n => exact Nat.zero_le _
  | chg m rm bh n t =>
    unfold pdd at h
    simp only [Option.bind_eq_some_iff, Option.map_eq_some_iff] at h
    obtain ⟨z, _, h⟩ := h
    split at h
    · simp at h
    · simp only [Option.bind_eq_some_iff, Option.map_eq_some_iff] at h
      obtain ⟨m', _, rm', hrm, bh', _, n', _, t', _, e⟩ := h
      have e := congrArg Prod.fst e
      simp only [Dd.chg.injEq] at e
      obtain ⟨_, e, _⟩ := e
      show rm.length ≤ _
      rw [← e]
      exact plist_len (q := rm'.2) (l := rm'.1) hrm
theorem ptrs_wd {ds : List Int} {p q : Nat} {ts : List Tri} (h : ptrs ds p = some (ts, q)) : (∀ t ∈ ts, wdD t.d ≤ ds.length) ∧ ts.length ≤ ds.length := by
  refine ⟨fun t ht => ?_, plist_len h⟩
  unfold ptrs plist at h
  simp only [Option.bind_eq_some_iff] at h
  obtain ⟨z, _, hm⟩ := h
  obtain ⟨p', q', hf⟩ := pmany_mem _ hm t ht
  unfold ptr at hf
  simp only [Option.bind_eq_some_iff, Option.map_eq_some_iff] at hf
  obtain ⟨y, _, z, _, d, hd, e⟩ := hf
  have e := congrArg (fun x => x.1.d) e
  simp only at e
  rw [← e]
  exact pdd_wd (q := d.2) hd
end My

end
section
set_option maxHeartbeats 4000000
local macro_rules | `(tactic| walk_at "k") => `(tactic| first
  | assumption
  | exact W.Keep.trans (by assumption) (by assumption)
  | exact And.intro (by grind [W.Keep, W.Kp]) (by grind [W.Keep, W.Kt])
  | grind [W.Keep, W.Kp])
local macro_rules | `(tactic| walk_at "f") => `(tactic| first
  | assumption
  | exact L2.SqL.of (by assumption)
  | exact L2.SqT.of (by assumption)
  | exact L2.SqL.of L2.upd_same
  | exact L2.SqT.of L2.upd_same
  | exact L2.upd_same
  | exact W.carryL (by assumption) (by assumption)
  | exact W.carryL (by assumption) (by walk_at "k")
  | exact W.carryT (by assumption) (by walk_at "k")
  | exact W.carry (by assumption) (by grind [W.Keep, W.Kp])
  | exact L2.SqL.of (W.carry (by assumption) (by grind [W.Keep, W.Kp]))
  | exact L2.SqT.of (W.carry (by assumption) (by grind [W.Keep, W.Kp])))
local macro_rules | `(tactic| walk_at "a") => `(tactic| first
  | assumption
  | rfl)
local macro_rules | `(tactic| walk_at "n") => `(tactic| first
  | assumption
  | exact Nat.zero_le _
  | decide
  | (simp only [List.length_cons, List.length_nil]; decide)
  | omega
  | (simp only [PySem.sizeLine_eq]; omega)
  | (simp only [List.length_map, List.length_append, List.length_cons, List.length_nil, PySem.sizeLine_eq]; omega)
  | (simp only [List.length_map, List.length_append, List.length_cons, List.length_nil, List.length_take, List.length_drop, PySem.sizeLine_eq]; omega)
  | (simp only [List.length_map, List.length_append, List.length_cons, List.length_nil, PySem.sizeLine_eq] at *; omega))
local macro_rules | `(tactic| walk_at "c") => `(tactic| first
  | assumption
  | decide
  | exact And.intro (by decide) (by decide)
  | exact Or.inr (And.intro (by decide) (by decide))
  | exact Or.inl (And.intro (by decide) (by decide))
  | exact And.intro (by decide) (And.intro (by decide) (by decide))
  | exact (show (0 : Int) < _ by decide)
  | exact And.intro (by omega) (by omega)
  | exact Or.inl (And.intro (by omega) (by omega))
  | exact Or.inr (And.intro (by omega) (by omega))
  | exact (show (0 : Int) < _ by omega))
local macro_rules | `(tactic| walk_at "v") => `(tactic| with_reducible first
  | refine W.v0 ?_ | refine W.v1 ?_ | refine W.v2 ?_ | refine W.v3 ?_ | refine W.v4 ?_ | refine W.v5 ?_ | refine W.v6 ?_ | refine W.v7 ?_ | refine W.v8 ?_
  | refine W.v9 ?_ | refine W.v10 ?_ | refine W.v11 ?_ | refine W.v12 ?_ | refine W.v13 ?_ | refine W.v14 ?_ | refine W.v15 ?_ | refine W.v16 ?_ | refine W.v17 ?_
  | refine W.g0 ?_ | refine W.g1 ?_ | refine W.g2 ?_ | refine W.g3 ?_ | refine W.g4 ?_ | refine W.g5 ?_ | refine W.g6 ?_ | refine W.g7 ?_ | refine W.g8 ?_
  | refine W.g9 ?_ | refine W.g10 ?_ | refine W.g11 ?_ | refine W.g12 ?_ | refine W.g13 ?_ | refine W.g14 ?_ | refine W.g15 ?_)
local macro_rules | `(tactic| walk_at "e") => `(tactic| with_reducible first
  | refine W.e_c ?_ | refine W.e_op ?_ | refine W.s_seq ?_ | refine W.s_asg ?_ | refine W.e_CB ?_ | refine W.a_cons ?_ | refine W.a_nil ?_ | refine W.e_call ?_
  | refine W.t_test ?_ | refine W.w_B ?_ | refine W.s_if ?_ | refine W.s_ret ?_ | refine W.s_drop ?_ | refine W.e_un ?_ | refine W.e_fld ?_ | refine W.s_fld ?_
  | refine W.e_meth ?_ | refine W.e_if ?_ | refine W.e_lst ?_ | refine W.e_tup ?_ | refine W.e_sl ?_ | refine W.o_none ?_ | refine W.o_some ?_ | refine W.w_part ?_
  | refine W.e_bm ?_ | refine W.e_bm0 ?_ | refine W.t_B ?_ | refine W.t_and ?_ | refine W.t_or ?_ | refine W.t_not ?_ | refine W.e_andV ?_ | refine W.e_orV ?_ | refine W.e_notV ?_ | refine W.w_BV ?_ | refine W.e_chain ?_
  | refine W.s_aug ?_ | refine W.s_augS ?_ | refine W.s_next ?_ | refine W.s_brk ?_ | refine W.s_cont ?_ | refine W.s_retN ?_ | refine W.s_fa ?_ | refine W.e_make ?_ | refine W.w_make ?_
  | refine W.w_I0 ?_ | refine W.w_U ?_ | refine W.w_aug ?_ | refine W.w_eqI ?_ | refine W.w_neI ?_ | refine W.w_eqS ?_ | refine W.w_neS ?_ | refine W.w_eqB ?_ | refine W.w_neB ?_
  | refine W.w_int ?_ | refine W.w_intB ?_ | refine W.w_min ?_ | refine W.w_max ?_ | refine W.w_isN ?_ | refine W.w_isI ?_ | refine W.w_isS ?_ | refine W.w_isB ?_ | refine W.w_isR ?_
  | refine W.w_notN ?_ | refine W.w_notI ?_ | refine W.w_notR ?_ | refine W.w_notS ?_ | refine W.w_eqNI ?_ | refine W.w_neNI ?_ | refine W.w_eqN ?_ | refine W.w_neN ?_
  | refine W.s_forL ?_ | refine W.s_forT ?_ | refine W.s_forS ?_ | refine W.s_forR1 ?_ | refine W.s_forR2 ?_ | refine W.s_forR3 ?_ | refine W.s_forZ ?_ | refine W.s_forE ?_
  | refine W.e_lcL ?_ | refine W.e_lcT ?_ | refine W.w_ord ?_ | refine W.e_lcR1 ?_ | refine W.e_lcR2 ?_ | refine W.e_lcZ ?_ | refine W.e_lcS ?_ | refine W.t_yes ?_ | refine W.w_gcons ?_ | refine W.w_gnil ?_ | refine W.s_par ?_ | refine W.w_par ?_ | refine W.g_sub ?_ | refine W.e_m1 ?_ | refine W.w_strR ?_ | refine W.w_rAdd ?_ | refine W.w_rSub ?_ | refine W.s_raise ?_ | refine W.s_try ?_ | refine W.e_methS ?_ | refine W.e_callS ?_)
local macro_rules | `(tactic| walk_at "w") => `(tactic| first
  | ((with_reducible refine' W.w_I ?wh ?wq); (case wh => walk_at "c"))
  | ((with_reducible refine' W.w_ixL (n := 0) ?wh ?we ?wq); (case wh => walk_at "f"); (case we => walk_at "a"))
  | ((with_reducible refine' W.w_ixT (n := 0) ?wh ?we ?wq); (case wh => walk_at "f"); (case we => walk_at "a"))
  | ((with_reducible refine' W.w_lenL ?wh ?wq); (case wh => walk_at "f"))
  | ((with_reducible refine' W.w_lenT ?wh ?wq); (case wh => walk_at "f"))
  | ((with_reducible refine' W.w_lenS ?wh ?wq); (case wh => walk_at "n"))
  | ((with_reducible refine' W.w_app ?wh ?we ?wq); (case wh => walk_at "f"); (case we => walk_at "n"))
  | ((with_reducible refine' W.w_meth ?wh ?we ?wq); (case wh => walk_at "f"); (case we => first | assumption | rfl))
  | ((with_reducible refine' W.w_ixLTl ?wh ?we ?wq); (case wh => walk_at "f"); (case we => walk_at "a"))
  | ((with_reducible refine' W.w_ixLTt ?wh ?we ?wq); (case wh => walk_at "f"); (case we => walk_at "a"))
  | ((with_reducible refine' W.w_addS ?wh ?wq); (case wh => walk_at "n"))
  | ((with_reducible refine' W.w_set ?wh ?we ?wq); (case wh => walk_at "f"); (case we => walk_at "a"))
  | ((with_reducible refine' W.w_tup ?wh ?we ?wq); (case wh => walk_at "f"); (case we => first | assumption | rfl))
  | ((with_reducible refine' W.w_slS ?wh ?wq); (case wh => walk_at "n"))
  | ((with_reducible refine' W.w_rApp ?wh ?we ?wq); (case wh => walk_at "f"); (case we => walk_at "n"))
  | ((with_reducible refine' W.w_newL ?wh ?wq); (case wh => walk_at "n"))
  | ((with_reducible refine' W.w_newT ?wh ?wq); (case wh => walk_at "n"))
  | ((with_reducible refine' W.w_listL ?wh ?wq); (case wh => walk_at "f"))
  | ((with_reducible refine' W.w_tupL ?wh ?wq); (case wh => walk_at "f"))
  | ((with_reducible refine' W.w_slL ?wh ?wq); (case wh => walk_at "f"))
  | ((with_reducible refine' W.w_cat ?wh ?wf ?we ?wq); (case wh => walk_at "f"); (case wf => walk_at "f"); (case we => walk_at "n"))
  | ((with_reducible refine' W.w_catT ?wh ?wf ?wx ?wy ?we ?wq); (case wh => walk_at "f"); (case wf => walk_at "f"); (case wx => exact List.cons_ne_nil _ _); (case wy => exact List.cons_ne_nil _ _); (case we => walk_at "n"))
  | ((with_reducible refine' W.w_ext ?wh ?wf ?we ?wq); (case wh => walk_at "f"); (case wf => walk_at "f"); (case we => walk_at "n"))
  | ((with_reducible refine' W.w_recv ?wh ?wq); (case wh => walk_at "f"))
  | ((with_reducible refine' W.w_isi1 ?wh ?we ?wq); (case wh => assumption); (case we => decide +kernel))
  | ((with_reducible refine' W.w_isi0 ?wh ?we ?wq); (case wh => assumption); (case we => decide +kernel))
  | ((with_reducible refine' W.w_isiT10 ?wh ?wf ?we ?wg ?wq); (case wh => assumption); (case wf => walk_at "f"); (case we => decide +kernel); (case wg => decide +kernel))
  | ((with_reducible refine' W.w_isiT01 ?wh ?wf ?we ?wg ?wq); (case wh => assumption); (case wf => walk_at "f"); (case we => decide +kernel); (case wg => decide +kernel))
  | ((with_reducible refine' W.w_isiT00 ?wh ?wf ?we ?wg ?wq); (case wh => assumption); (case wf => walk_at "f"); (case we => decide +kernel); (case wg => decide +kernel))
  | ((with_reducible refine' W.w_ins ?wh ?we ?wf ?wq); (case wh => walk_at "f"); (case we => walk_at "n"); (case wf => walk_at "c"))
  | ((with_reducible refine' W.w_unl ?wh ?we ?wq); (case wh => walk_at "f"); (case we => first | assumption | rfl))
  | ((with_reducible refine' W.ite_T ?_))
  | ((with_reducible refine' W.ite_F ?_))
  | ((with_reducible refine' W.ite_nT ?_))
  | ((with_reducible refine' W.ite_nF ?_))
  | ((with_reducible refine' W.ite_self ?_))
  | ((with_reducible refine' W.ite_nself ?_))
  | ((with_reducible refine' W.ite_tf ?_))
  | ((with_reducible refine' W.ite_ft ?_))
  | ((with_reducible refine' W.ite_ntf ?_))
  | ((with_reducible refine' W.ite_nft ?_))
  | ((with_reducible refine' And.intro ?wl ?wq); (case wl => rfl)))
local macro_rules | `(tactic| walk_at "i") => `(tactic| try (dsimp only [L2.cxOf, L2.wipe, List.map, List.set]))
local macro_rules | `(tactic| walk_at "s") => `(tactic| first | walk_at "v" | walk_at "e" | walk_at "w")
local macro_rules | `(tactic| walk_at "r") => `(tactic| repeat walk_at "s")

namespace My
open PySem L2 W
variable {P : Program} {w : World} {K : PySem.W.Frag} {mg : Str → Option Value} {base : Heap} {A : Adr}
/-! draws: only their range matters. The state: its script at c, itself at a -/
def Drw (a c : Addr) (ns : List Int) (H : Hp) : Prop := ∃ i b g : Int, 0 ≤ i ∧ H a = some (.lst [.ref c, .int i, .int b, .int g]) ∧ H c = some (.lst (ns.map V.int))
theorem Drw.keep {S : List Addr} {H H' : Hp} {a d : Addr} {ds : List Int} (h : Drw a d ds H) (k : Keep S H H') (n0 : a ∉ S) (n1 : d ∉ S) : Drw a d ds H' := by
  obtain ⟨i, b, g, hi, h1, h2⟩ := h
  exact ⟨i, b, g, hi, k.get h1 n0, k.get h2 n1⟩
theorem Drw.more {H H' : Hp} {a d : Addr} {ds : List Int} (h : Drw a d ds H) (k : Keep [] H H') : Drw a d ds H' := h.keep k (by simp) (by simp)
theorem Drw.fre {H : Hp} {a d b : Addr} {ds : List Int} (h : Drw a d ds H) (e : H b = none) : b ≠ a ∧ b ≠ d := by
  obtain ⟨i, _, _, hi, h1, h2⟩ := h
  exact ⟨Ne.symm (ne_of_none h1 e), Ne.symm (ne_of_none h2 e)⟩
theorem Drw.ne {H : Hp} {a d : Addr} {ds : List Int} (h : Drw a d ds H) : d ≠ a := by
  obtain ⟨i, _, _, hi, h1, h2⟩ := h
  intro z
  subst z
  rw [h1] at h2
  cases ds with
  | nil => cases h2
  | cons x r => cases h2
theorem Drw.mut {H H' : Hp} {a d b : Addr} {ds : List Int} (h : Drw a d ds H) (k : Keep [b] H H') (n : b ≠ a ∧ b ≠ d) : Drw a d ds H' := h.keep k (by simp [Ne.symm n.1]) (by simp [Ne.symm n.2])
def sp_next (K : PySem.W.Frag) : Sp := fun vs H Q _ => ∃ (a c : Addr) (ns : List Int) (m : Int), vs = [.ref a, .int m] ∧ Drw a c ns H ∧ 0 < m ∧ m < 2 ^ 100 ∧
  ∀ v H', 0 ≤ v → v < m → Keep [a] H H' → Drw a c ns H' → Q (.int v) H'
theorem at_int {ds : List Int} {i : Int} (h : 0 ≤ i) (l : i < ds.length) : ∃ v, atI (ds.map V.int) i = some (.int v) := by
  obtain ⟨n, rfl⟩ := Int.eq_ofNat_of_zero_le h
  refine ⟨ds.getD n 0, atI_nat ?_⟩
  rw [List.getElem?_map, List.getD_eq_getElem?_getD, List.getElem?_eq_getElem (by omega)]; rfl
theorem cdw {i m : Int} (h : 0 < m) (h2 : m < 2 ^ 100) : CDivW i m := wide_div (b := 100) h (by omega) (by decide) (by decide)
theorem ok__law_next (e : Env K mg A) : FnOk P w K mg base CX0 1 A.f__law_next A.d__law_next ["state", "limit"] (sp_next K) := by
  refine e.F__law_next.ok sc__law_next (fun vs H Q E h => ?_) (fun cdv AA outer s H vs Q E hr h => ?_)
  · obtain ⟨a, d, ds, m, rfl, _⟩ := h
    rfl
  · obtain ⟨a, c, ns, m, rfl, hD, hm, hm2, q⟩ := h
    have had := hD.ne
    obtain ⟨i, b, g, hi, ha, hc⟩ := hD
    refine ⟨_, (Evl.pss_cut (ps_if (PW.pt (pw_and (pt_cmpR op_eq (pe_ix (ix_listK (K := K)) (pv 0) pe_int (fun _ _ => rfl)) pe_int (nomark _)) (pw_and1 (pt_cmpR op_lt (pe_ix (ix_listK (K := K)) (pv 0) pe_int (fun _ _ => rfl)) (pe_callB (call_lenLK (K := K)) (by rfl) e.n_len (by decide +kernel) (pa_cons (pe_ix (ix_listK (K := K)) (pv 0) pe_int (fun _ _ => rfl)) pa_nil)) (nomark _))))) (pss_cons (ps_set (i := 2) sc__law_next.nd rfl (Or.inl rfl) (pe_ix (ix_listK (K := K)) (pe_ix (ix_listK (K := K)) (pv 0) pe_int (fun _ _ => rfl)) (pe_ix (ix_listK (K := K)) (pv 0) pe_int (fun _ _ => rfl)) (fun _ _ => rfl)))
    (pss_cons (ps_augS (pv 0) pe_int (get_listK (K := K)) pe_int ip_add set_list)
    (pss_one (ps_if (pt_cmpR op_ge (pv 2) (pe_op op_pow pe_int pe_int) (nomark _)) (pss_one (ps_asg (pv 2) (pg_sub (pv 0) pe_int set_list))) (pss_one (ps_asg (pe_op op_mod (pe_callTy call_int (by rfl) e.n_int (by decide +kernel) (pa_cons (pe_op op_add (pe_op op_add (pe_op op_mul (pe_ix (ix_listK (K := K)) (pv 0) pe_int (fun _ _ => rfl)) pe_int) (pe_op op_mod (pe_callTy call_int (by rfl) e.n_int (by decide +kernel) (pa_cons (pv 2) pa_nil)) pe_int)) pe_int) pa_nil)) pe_int) (pg_sub (pv 0) pe_int set_list))))))) pss_nil)
    (pss_cons (ps_if (pt_cmpR op_gt (pe_ix (ix_listK (K := K)) (pv 0) pe_int (fun _ _ => rfl)) pe_int (nomark _)) (pss_cons (ps_set (i := 3) sc__law_next.nd rfl (Or.inl rfl) (pe_op op_mod (pe_callTy call_int (by rfl) e.n_int (by decide +kernel) (pa_cons (pe_ix (ix_listK (K := K)) (pv 0) pe_int (fun _ _ => rfl)) pa_nil)) (pv 1)))
    (pss_cons (ps_asg (pe_op op_fdivW (pe_ix (ix_listK (K := K)) (pv 0) pe_int (fun _ _ => rfl)) (pv 1)) (pg_sub (pv 0) pe_int set_list))
    (pss_one (ps_ret (pv 3))))) pss_nil)
    (pss_cons (ps_asg (pe_op op_mod (pe_callTy call_int (by rfl) e.n_int (by decide +kernel) (pa_cons (pe_op op_add (pe_op op_mul (pe_ix (ix_listK (K := K)) (pv 0) pe_int (fun _ _ => rfl)) pe_int) pe_int) pa_nil)) pe_int) (pg_sub (pv 0) pe_int set_list))
    (pss_one (ps_ret (pe_op op_mod (pe_callTy call_int (by rfl) e.n_int (by decide +kernel) (pa_cons (pe_op op_fdiv (pe_ix (ix_listK (K := K)) (pv 0) pe_int (fun _ _ => rfl)) pe_int) pa_nil)) (pv 1))))))), ?_⟩
    refine enter (st__law_next _ _) ?_
    walk_at "i"
    refine s_cut (fun σ' H1 => ∃ v2 v3, σ' = [some (.ref a), some (.int m), v2, v3] ∧ Keep [a] H H1 ∧ Drw a c ns H1) ?_ ?_
    · walk_at "r"
      have skip : ∀ (v2 v3 : Option V), ∃ w2 w3, [some (V.ref a), some (V.int m), v2, v3] = [some (V.ref a), some (V.int m), w2, w3] ∧ Keep [a] H H ∧ Drw a c ns H := fun v2 v3 => ⟨_, _, rfl, Keep.refl, i, b, g, hi, ha, hc⟩
      refine ite_dec (fun h0 => ?_) (fun h0 => ?_)
      · walk_at "r"
        rw [List.length_map]
        refine ite_dec (fun hl => ?_) (fun hl => ?_)
        · obtain ⟨v, hv⟩ := at_int hi hl
          walk_at "r"
          intro H1 k1 h1
          have hc1 : H1 c = some (.lst (ns.map V.int)) := k1.get hc (by simp [had])
          skip
          walk_at "r"
          refine ite_dec (fun hv => ?_) (fun hv => ?_)
          · walk_at "r"
            intro H2 k2 h2
            skip
            exact ⟨_, _, rfl, k1.trans k2, _, _, _, by omega, h2, k2.get hc1 (by simp [had])⟩
          · walk_at "r"
            intro H2 k2 h2
            skip
            exact ⟨_, _, rfl, k1.trans k2, _, _, _, by omega, h2, k2.get hc1 (by simp [had])⟩
        · walk_at "r"
          exact skip _ _
      · walk_at "r"
        exact skip _ _
    · rintro σ' H1 ⟨v2, v3, rfl, k1, j, b1, g1, hj, h1, hc1⟩
      walk_at "r"
      refine ite_dec (fun h0 => ?_) (fun h0 => ?_)
      · walk_at "r"
        refine w_I (cdw hm hm2) ?_
        walk_at "r"
        intro H2 k2 h2
        skip
        walk_at "r"
        exact q _ H2 (Int.emod_nonneg _ (by omega)) (Int.emod_lt_of_pos _ hm) (k1.trans k2) ⟨_, _, _, hj, h2, k2.get hc1 (by simp [had])⟩
      · walk_at "r"
        intro H2 k2 h2
        skip
        walk_at "r"
        exact q _ H2 (Int.emod_nonneg _ (by omega)) (Int.emod_lt_of_pos _ hm) (k1.trans k2) ⟨_, _, _, hj, h2, k2.get hc1 (by simp [had])⟩
end My

end
section
set_option maxHeartbeats 4000000
local macro_rules | `(tactic| walk_at "k") => `(tactic| first
  | assumption
  | exact W.Keep.trans (by assumption) (by assumption)
  | exact And.intro (by grind [W.Keep, W.Kp]) (by grind [W.Keep, W.Kt])
  | grind [W.Keep, W.Kp])
local macro_rules | `(tactic| walk_at "f") => `(tactic| first
  | assumption
  | exact L2.SqL.of (by assumption)
  | exact L2.SqT.of (by assumption)
  | exact L2.SqL.of L2.upd_same
  | exact L2.SqT.of L2.upd_same
  | exact L2.upd_same
  | exact W.carryL (by assumption) (by assumption)
  | exact W.carryL (by assumption) (by walk_at "k")
  | exact W.carryT (by assumption) (by walk_at "k")
  | exact W.carry (by assumption) (by grind [W.Keep, W.Kp])
  | exact L2.SqL.of (W.carry (by assumption) (by grind [W.Keep, W.Kp]))
  | exact L2.SqT.of (W.carry (by assumption) (by grind [W.Keep, W.Kp])))
local macro_rules | `(tactic| walk_at "a") => `(tactic| first
  | assumption
  | rfl)
local macro_rules | `(tactic| walk_at "n") => `(tactic| first
  | assumption
  | exact Nat.zero_le _
  | decide
  | (simp only [List.length_cons, List.length_nil]; decide)
  | omega
  | (simp only [PySem.sizeLine_eq]; omega)
  | (simp only [List.length_map, List.length_append, List.length_cons, List.length_nil, PySem.sizeLine_eq]; omega)
  | (simp only [List.length_map, List.length_append, List.length_cons, List.length_nil, List.length_take, List.length_drop, PySem.sizeLine_eq]; omega)
  | (simp only [List.length_map, List.length_append, List.length_cons, List.length_nil, PySem.sizeLine_eq] at *; omega))
local macro_rules | `(tactic| walk_at "c") => `(tactic| first
  | assumption
  | decide
  | exact And.intro (by decide) (by decide)
  | exact Or.inr (And.intro (by decide) (by decide))
  | exact Or.inl (And.intro (by decide) (by decide))
  | exact And.intro (by decide) (And.intro (by decide) (by decide))
  | exact (show (0 : Int) < _ by decide)
  | exact And.intro (by omega) (by omega)
  | exact Or.inl (And.intro (by omega) (by omega))
  | exact Or.inr (And.intro (by omega) (by omega))
  | exact (show (0 : Int) < _ by omega))
local macro_rules | `(tactic| walk_at "v") => `(tactic| with_reducible first
  | refine W.v0 ?_ | refine W.v1 ?_ | refine W.v2 ?_ | refine W.v3 ?_ | refine W.v4 ?_ | refine W.v5 ?_ | refine W.v6 ?_ | refine W.v7 ?_ | refine W.v8 ?_
  | refine W.v9 ?_ | refine W.v10 ?_ | refine W.v11 ?_ | refine W.v12 ?_ | refine W.v13 ?_ | refine W.v14 ?_ | refine W.v15 ?_ | refine W.v16 ?_ | refine W.v17 ?_
  | refine W.g0 ?_ | refine W.g1 ?_ | refine W.g2 ?_ | refine W.g3 ?_ | refine W.g4 ?_ | refine W.g5 ?_ | refine W.g6 ?_ | refine W.g7 ?_ | refine W.g8 ?_
  | refine W.g9 ?_ | refine W.g10 ?_ | refine W.g11 ?_ | refine W.g12 ?_ | refine W.g13 ?_ | refine W.g14 ?_ | refine W.g15 ?_)
local macro_rules | `(tactic| walk_at "e") => `(tactic| with_reducible first
  | refine W.e_c ?_ | refine W.e_op ?_ | refine W.s_seq ?_ | refine W.s_asg ?_ | refine W.e_CB ?_ | refine W.a_cons ?_ | refine W.a_nil ?_ | refine W.e_call ?_
  | refine W.t_test ?_ | refine W.w_B ?_ | refine W.s_if ?_ | refine W.s_ret ?_ | refine W.s_drop ?_ | refine W.e_un ?_ | refine W.e_fld ?_ | refine W.s_fld ?_
  | refine W.e_meth ?_ | refine W.e_if ?_ | refine W.e_lst ?_ | refine W.e_tup ?_ | refine W.e_sl ?_ | refine W.o_none ?_ | refine W.o_some ?_ | refine W.w_part ?_
  | refine W.e_bm ?_ | refine W.e_bm0 ?_ | refine W.t_B ?_ | refine W.t_and ?_ | refine W.t_or ?_ | refine W.t_not ?_ | refine W.e_andV ?_ | refine W.e_orV ?_ | refine W.e_notV ?_ | refine W.w_BV ?_ | refine W.e_chain ?_
  | refine W.s_aug ?_ | refine W.s_augS ?_ | refine W.s_next ?_ | refine W.s_brk ?_ | refine W.s_cont ?_ | refine W.s_retN ?_ | refine W.s_fa ?_ | refine W.e_make ?_ | refine W.w_make ?_
  | refine W.w_I0 ?_ | refine W.w_U ?_ | refine W.w_aug ?_ | refine W.w_eqI ?_ | refine W.w_neI ?_ | refine W.w_eqS ?_ | refine W.w_neS ?_ | refine W.w_eqB ?_ | refine W.w_neB ?_
  | refine W.w_int ?_ | refine W.w_intB ?_ | refine W.w_min ?_ | refine W.w_max ?_ | refine W.w_isN ?_ | refine W.w_isI ?_ | refine W.w_isS ?_ | refine W.w_isB ?_ | refine W.w_isR ?_
  | refine W.w_notN ?_ | refine W.w_notI ?_ | refine W.w_notR ?_ | refine W.w_notS ?_ | refine W.w_eqNI ?_ | refine W.w_neNI ?_ | refine W.w_eqN ?_ | refine W.w_neN ?_
  | refine W.s_forL ?_ | refine W.s_forT ?_ | refine W.s_forS ?_ | refine W.s_forR1 ?_ | refine W.s_forR2 ?_ | refine W.s_forR3 ?_ | refine W.s_forZ ?_ | refine W.s_forE ?_
  | refine W.e_lcL ?_ | refine W.e_lcT ?_ | refine W.w_ord ?_ | refine W.e_lcR1 ?_ | refine W.e_lcR2 ?_ | refine W.e_lcZ ?_ | refine W.e_lcS ?_ | refine W.t_yes ?_ | refine W.w_gcons ?_ | refine W.w_gnil ?_ | refine W.s_par ?_ | refine W.w_par ?_ | refine W.g_sub ?_ | refine W.e_m1 ?_ | refine W.w_strR ?_ | refine W.w_rAdd ?_ | refine W.w_rSub ?_ | refine W.s_raise ?_ | refine W.s_try ?_ | refine W.e_methS ?_ | refine W.e_callS ?_)
local macro_rules | `(tactic| walk_at "w") => `(tactic| first
  | ((with_reducible refine' W.w_I ?wh ?wq); (case wh => walk_at "c"))
  | ((with_reducible refine' W.w_ixL (n := 0) ?wh ?we ?wq); (case wh => walk_at "f"); (case we => walk_at "a"))
  | ((with_reducible refine' W.w_ixT (n := 0) ?wh ?we ?wq); (case wh => walk_at "f"); (case we => walk_at "a"))
  | ((with_reducible refine' W.w_lenL ?wh ?wq); (case wh => walk_at "f"))
  | ((with_reducible refine' W.w_lenT ?wh ?wq); (case wh => walk_at "f"))
  | ((with_reducible refine' W.w_lenS ?wh ?wq); (case wh => walk_at "n"))
  | ((with_reducible refine' W.w_app ?wh ?we ?wq); (case wh => walk_at "f"); (case we => walk_at "n"))
  | ((with_reducible refine' W.w_meth ?wh ?we ?wq); (case wh => walk_at "f"); (case we => first | assumption | rfl))
  | ((with_reducible refine' W.w_ixLTl ?wh ?we ?wq); (case wh => walk_at "f"); (case we => walk_at "a"))
  | ((with_reducible refine' W.w_ixLTt ?wh ?we ?wq); (case wh => walk_at "f"); (case we => walk_at "a"))
  | ((with_reducible refine' W.w_addS ?wh ?wq); (case wh => walk_at "n"))
  | ((with_reducible refine' W.w_set ?wh ?we ?wq); (case wh => walk_at "f"); (case we => walk_at "a"))
  | ((with_reducible refine' W.w_tup ?wh ?we ?wq); (case wh => walk_at "f"); (case we => first | assumption | rfl))
  | ((with_reducible refine' W.w_slS ?wh ?wq); (case wh => walk_at "n"))
  | ((with_reducible refine' W.w_rApp ?wh ?we ?wq); (case wh => walk_at "f"); (case we => walk_at "n"))
  | ((with_reducible refine' W.w_newL ?wh ?wq); (case wh => walk_at "n"))
  | ((with_reducible refine' W.w_newT ?wh ?wq); (case wh => walk_at "n"))
  | ((with_reducible refine' W.w_listL ?wh ?wq); (case wh => walk_at "f"))
  | ((with_reducible refine' W.w_tupL ?wh ?wq); (case wh => walk_at "f"))
  | ((with_reducible refine' W.w_slL ?wh ?wq); (case wh => walk_at "f"))
  | ((with_reducible refine' W.w_cat ?wh ?wf ?we ?wq); (case wh => walk_at "f"); (case wf => walk_at "f"); (case we => walk_at "n"))
  | ((with_reducible refine' W.w_catT ?wh ?wf ?wx ?wy ?we ?wq); (case wh => walk_at "f"); (case wf => walk_at "f"); (case wx => exact List.cons_ne_nil _ _); (case wy => exact List.cons_ne_nil _ _); (case we => walk_at "n"))
  | ((with_reducible refine' W.w_ext ?wh ?wf ?we ?wq); (case wh => walk_at "f"); (case wf => walk_at "f"); (case we => walk_at "n"))
  | ((with_reducible refine' W.w_recv ?wh ?wq); (case wh => walk_at "f"))
  | ((with_reducible refine' W.w_isi1 ?wh ?we ?wq); (case wh => assumption); (case we => decide +kernel))
  | ((with_reducible refine' W.w_isi0 ?wh ?we ?wq); (case wh => assumption); (case we => decide +kernel))
  | ((with_reducible refine' W.w_isiT10 ?wh ?wf ?we ?wg ?wq); (case wh => assumption); (case wf => walk_at "f"); (case we => decide +kernel); (case wg => decide +kernel))
  | ((with_reducible refine' W.w_isiT01 ?wh ?wf ?we ?wg ?wq); (case wh => assumption); (case wf => walk_at "f"); (case we => decide +kernel); (case wg => decide +kernel))
  | ((with_reducible refine' W.w_isiT00 ?wh ?wf ?we ?wg ?wq); (case wh => assumption); (case wf => walk_at "f"); (case we => decide +kernel); (case wg => decide +kernel))
  | ((with_reducible refine' W.w_ins ?wh ?we ?wf ?wq); (case wh => walk_at "f"); (case we => walk_at "n"); (case wf => walk_at "c"))
  | ((with_reducible refine' W.w_unl ?wh ?we ?wq); (case wh => walk_at "f"); (case we => first | assumption | rfl))
  | ((with_reducible refine' W.ite_T ?_))
  | ((with_reducible refine' W.ite_F ?_))
  | ((with_reducible refine' W.ite_nT ?_))
  | ((with_reducible refine' W.ite_nF ?_))
  | ((with_reducible refine' W.ite_self ?_))
  | ((with_reducible refine' W.ite_nself ?_))
  | ((with_reducible refine' W.ite_tf ?_))
  | ((with_reducible refine' W.ite_ft ?_))
  | ((with_reducible refine' W.ite_ntf ?_))
  | ((with_reducible refine' W.ite_nft ?_))
  | ((with_reducible refine' And.intro ?wl ?wq); (case wl => rfl)))
local macro_rules | `(tactic| walk_at "i") => `(tactic| try (dsimp only [L2.cxOf, L2.wipe, List.map, List.set]))
local macro_rules | `(tactic| walk_at "s") => `(tactic| first | walk_at "v" | walk_at "e" | walk_at "w")
local macro_rules | `(tactic| walk_at "r") => `(tactic| repeat walk_at "s")

namespace My
open PySem L2 W
variable {P : Program} {w : World} {K : PySem.W.Frag} {mg : Str → Option Value} {base : Heap} {A : Adr}
/-! equal data are told to be the same -/
def sp_same : Nat → Sp
  | 0 => fun _ _ _ _ => False
  | n + 1 => fun vs H Q _ => ∃ (x y : V) (d : PyData), vs = [x, y] ∧ Da H d x ∧ Da H d y ∧ dep d ≤ n ∧ wid d ≤ 16777216 ∧ ∀ H', Keep [] H H' → Q (.bl true) H'
theorem ok__law_same (e : Env K mg A) : ∀ n, FnOk P w K mg base CX0 (n + 1) A.f__law_same A.d__law_same ["actual", "expected"] (sp_same n)
  | 0 => ⟨fun _ _ _ _ h => h.elim, fun _ _ _ _ _ _ _ _ _ _ _ _ _ h => h.elim⟩
  | n + 1 => by
    have G__law_same := ok__law_same e n
    refine e.F__law_same.ok sc__law_same (fun vs H Q E h => ?_) (fun cdv AA outer s H vs Q E hr h => ?_)
    · obtain ⟨x, y, d, rfl, _⟩ := h
      rfl
    · obtain ⟨x, y, d, rfl, hx, hy, hd, hw, q⟩ := h
      refine ⟨_, (pss_cons (ps_if (pt_cmpR op_isNo (pv 1) pe_non (nomark _)) (pss_one (ps_ret (pe_cmpR op_isNo (pv 0) pe_non (nomark _)))) pss_nil)
    (pss_cons (ps_if (pt_val (pe_callB (call_isiK (K := K)) (by rfl) e.n_isinstance (by decide +kernel) (pa_cons (pv 1) (pa_cons (pe_bltn (v := .ty "bool") (by rfl) e.n_bool (by decide +kernel) rfl) pa_nil)))) (pss_one (ps_ret (pe_and (pe_callB (call_isiK (K := K)) (by rfl) e.n_isinstance (by decide +kernel) (pa_cons (pv 0) (pa_cons (pe_bltn (v := .ty "bool") (by rfl) e.n_bool (by decide +kernel) rfl) pa_nil))) (pe_one (pe_cmpR op_eq (pv 0) (pv 1) (nomark _)))))) pss_nil)
    (pss_cons (ps_if (pt_val (pe_callB (call_isiK (K := K)) (by rfl) e.n_isinstance (by decide +kernel) (pa_cons (pv 1) (pa_cons (pe_bltn (v := .ty "int") (by rfl) e.n_int (by decide +kernel) rfl) pa_nil)))) (pss_one (ps_ret (pe_and (pe_callB (call_isiK (K := K)) (by rfl) e.n_isinstance (by decide +kernel) (pa_cons (pv 0) (pa_cons (pe_bltn (v := .ty "int") (by rfl) e.n_int (by decide +kernel) rfl) pa_nil))) (pe_and (pe_not (pe_callB (call_isiK (K := K)) (by rfl) e.n_isinstance (by decide +kernel) (pa_cons (pv 0) (pa_cons (pe_bltn (v := .ty "bool") (by rfl) e.n_bool (by decide +kernel) rfl) pa_nil)))) (pe_one (pe_cmpR op_eq (pv 0) (pv 1) (nomark _))))))) pss_nil)
    (pss_cons (ps_if (pt_val (pe_callB (call_isiK (K := K)) (by rfl) e.n_isinstance (by decide +kernel) (pa_cons (pv 1) (pa_cons (pe_bltn (v := .ty "str") (by rfl) e.n_str (by decide +kernel) rfl) pa_nil)))) (pss_one (ps_ret (pe_and (pe_callB (call_isiK (K := K)) (by rfl) e.n_isinstance (by decide +kernel) (pa_cons (pv 0) (pa_cons (pe_bltn (v := .ty "str") (by rfl) e.n_str (by decide +kernel) rfl) pa_nil))) (pe_one (pe_cmpR op_eq (pv 0) (pv 1) (nomark _)))))) pss_nil)
    (pss_cons (ps_if (PW.pt (pw_and (pt_val (pe_callB (call_isiK (K := K)) (by rfl) e.n_isinstance (by decide +kernel) (pa_cons (pv 1) (pa_cons (pe_bltn (v := .ty "tuple") (by rfl) e.n_tuple (by decide +kernel) rfl) pa_nil)))) (pw_and1 (pt_not (pt_val (pe_callB (call_isiK (K := K)) (by rfl) e.n_isinstance (by decide +kernel) (pa_cons (pv 0) (pa_cons (pe_bltn (v := .ty "tuple") (by rfl) e.n_tuple (by decide +kernel) rfl) pa_nil)))))))) (pss_one (ps_ret pe_bl)) pss_nil)
    (pss_cons (ps_if (PW.pt (pw_and (pt_val (pe_callB (call_isiK (K := K)) (by rfl) e.n_isinstance (by decide +kernel) (pa_cons (pv 1) (pa_cons (pe_bltn (v := .ty "list") (by rfl) e.n_list (by decide +kernel) rfl) pa_nil)))) (pw_and1 (pt_not (pt_val (pe_callB (call_isiK (K := K)) (by rfl) e.n_isinstance (by decide +kernel) (pa_cons (pv 0) (pa_cons (pe_bltn (v := .ty "list") (by rfl) e.n_list (by decide +kernel) rfl) pa_nil)))))))) (pss_one (ps_ret pe_bl)) pss_nil)
    (pss_cons (ps_if (pt_cmpR op_ne (pe_callB (call_lenLK (K := K)) (by rfl) e.n_len (by decide +kernel) (pa_cons (pv 0) pa_nil)) (pe_callB (call_lenLK (K := K)) (by rfl) e.n_len (by decide +kernel) (pa_cons (pv 1) pa_nil)) (nomark _)) (pss_one (ps_ret pe_bl)) pss_nil)
    (pss_cons (ps_for PassesOwn.never rfl (pi_range1 rfl e.n_range (pa_cons (pe_callB (call_lenLK (K := K)) (by rfl) e.n_len (by decide +kernel) (pa_cons (pv 1) pa_nil)) pa_nil)) (pg_name (i := 2) sc__law_same.nd rfl (Or.inl rfl)) (pss_one (ps_if (pt_not (pt_val (pe_call G__law_same (hr.mono (by omega)) (by rfl) e.m__law_same e.k__law_same e.b__law_same .nil pass0 (pa_cons (pe_ix (ix_ltK (K := K)) (pv 0) (pv 2) (fun _ _ => rfl)) (pa_cons (pe_ix (ix_ltK (K := K)) (pv 1) (pv 2) (fun _ _ => rfl)) pa_nil))))) (pss_one (ps_ret pe_bl)) pss_nil)))
    (pss_one (ps_ret pe_bl)))))))))), ?_⟩
      refine enter (st__law_same _ _) ?_
      walk_at "i"
      have hx1 := hx
      have hy1 := hy
      have tx := hx1.ty (K := K)
      have ty := hy1.ty (K := K)
      cases d with
      | none =>
        simp only [Da] at hx1 hy1
        simp only [tyName] at tx ty
        subst hx1 hy1
        walk_at "r"
        exact q _ Keep.refl
      | bool b =>
        simp only [Da] at hx1 hy1
        simp only [tyName] at tx ty
        subst hx1 hy1
        walk_at "r"
        simp only [decide_true]
        exact q _ Keep.refl
      | int i =>
        simp only [Da] at hx1 hy1
        simp only [tyName] at tx ty
        subst hx1 hy1
        walk_at "r"
        simp only [decide_true]
        exact q _ Keep.refl
      | str z =>
        simp only [Da] at hx1 hy1
        simp only [tyName] at tx ty
        subst hx1 hy1
        walk_at "r"
        simp only [decide_true]
        exact q _ Keep.refl
      | list ds =>
        simp only [Da] at hx1 hy1
        simp only [tyName] at tx ty
        obtain ⟨a, xs, rfl, ha, hxs⟩ := hx1
        obtain ⟨b, ys, rfl, hb, hys⟩ := hy1
        walk_at "r"
        rw [hxs.len, hys.len]
        walk_at "r"
        rw [hys.len]
        have hz : ds.length ≤ 16777216 := by simp only [wid] at hw; omega
        refine forR1 (by omega) (by omega) (fun i σ H' => ∃ v2, σ = [some (.ref a), some (.ref b), v2] ∧ Keep [] H H') ⟨_, rfl, Keep.refl⟩ ?_ ?_
        · rintro i σ H2 hi ⟨v2, rfl, k2⟩
          have ha2 : H2 a = some (.lst xs) := k2.same _ _ ha
          have hb2 : H2 b = some (.lst ys) := k2.same _ _ hb
          obtain ⟨x, ex⟩ : ∃ x, xs[i]? = some x := ⟨_, List.getElem?_eq_getElem (by have := hxs.len; omega)⟩
          obtain ⟨y, ey⟩ : ∃ y, ys[i]? = some y := ⟨_, List.getElem?_eq_getElem (by have := hys.len; omega)⟩
          have ax := atI_nat ex
          have ay := atI_nat ey
          obtain ⟨d, ed, dx⟩ := hxs.get ex
          obtain ⟨d', ed', dy⟩ := hys.get ey
          rw [ed] at ed'
          cases ed'
          walk_at "r"
          cases n with
          | zero => simp only [dep] at hd; omega
          | succ n =>
            refine ⟨x, y, d, rfl, dx.mono k2.same, dy.mono k2.same, ?_, ?_, fun H3 k3 => ?_⟩
            · have := depL_get ed
              simp only [dep] at hd
              omega
            · have := widL_get ed
              simp only [wid] at hw
              omega
            walk_at "r"
            exact ⟨_, rfl, k2.trans k3⟩
        · rintro σ H2 ⟨v2, rfl, k2⟩
          walk_at "r"
          exact q _ k2
      | tuple ds =>
        simp only [Da] at hx1 hy1
        simp only [tyName] at tx ty
        obtain ⟨a, xs, rfl, ha, hxs⟩ := hx1
        obtain ⟨b, ys, rfl, hb, hys⟩ := hy1
        walk_at "r"
        rw [hxs.len, hys.len]
        walk_at "r"
        rw [hys.len]
        have hz : ds.length ≤ 16777216 := by simp only [wid] at hw; omega
        refine forR1 (by omega) (by omega) (fun i σ H' => ∃ v2, σ = [some (.ref a), some (.ref b), v2] ∧ Keep [] H H') ⟨_, rfl, Keep.refl⟩ ?_ ?_
        · rintro i σ H2 hi ⟨v2, rfl, k2⟩
          have ha2 : H2 a = some (.tup xs) := k2.same _ _ ha
          have hb2 : H2 b = some (.tup ys) := k2.same _ _ hb
          obtain ⟨x, ex⟩ : ∃ x, xs[i]? = some x := ⟨_, List.getElem?_eq_getElem (by have := hxs.len; omega)⟩
          obtain ⟨y, ey⟩ : ∃ y, ys[i]? = some y := ⟨_, List.getElem?_eq_getElem (by have := hys.len; omega)⟩
          have ax := atI_nat ex
          have ay := atI_nat ey
          obtain ⟨d, ed, dx⟩ := hxs.get ex
          obtain ⟨d', ed', dy⟩ := hys.get ey
          rw [ed] at ed'
          cases ed'
          walk_at "r"
          cases n with
          | zero => simp only [dep] at hd; omega
          | succ n =>
            refine ⟨x, y, d, rfl, dx.mono k2.same, dy.mono k2.same, ?_, ?_, fun H3 k3 => ?_⟩
            · have := depL_get ed
              simp only [dep] at hd
              omega
            · have := widL_get ed
              simp only [wid] at hw
              omega
            walk_at "r"
            exact ⟨_, rfl, k2.trans k3⟩
        · rintro σ H2 ⟨v2, rfl, k2⟩
          walk_at "r"
          exact q _ k2
      | dict ds => simp [Da] at hx
end My

end
section
set_option maxHeartbeats 4000000
/-! a reader never stands behind the end -/
namespace My
open W PySem L2
section
variable {α β : Type} {ds : List Int}
def Fw (ds : List Int) (f : Nat → Option (α × Nat)) : Prop := ∀ p a q, p ≤ ds.length → f p = some (a, q) → q ≤ ds.length
theorem fw_bind {f : Nat → Option (α × Nat)} {g : α → Nat → Option (β × Nat)} (h : Fw ds f) (k : ∀ a, Fw ds (g a)) : Fw ds (fun p => (f p).bind fun z => g z.1 z.2) := fun p b q hp e => by
  cases hf : f p with
  | none => simp only [hf] at e; cases e
  | some z =>
    simp only [hf, Option.bind_some] at e
    exact k z.1 z.2 b q (h p z.1 z.2 hp hf) e
theorem fw_map {f : Nat → Option (α × Nat)} {g : α → β} (h : Fw ds f) : Fw ds (fun p => (f p).map fun z => (g z.1, z.2)) := fun p b q hp e => by
  cases hf : f p with
  | none => simp only [hf] at e; cases e
  | some z =>
    simp only [hf, Option.map_some, Option.some.injEq, Prod.mk.injEq] at e
    rw [← e.2]
    exact h p z.1 z.2 hp hf
theorem fw_ret {a : α} : Fw ds (fun p => some (a, p)) := fun p b q hp e => by cases e; exact hp
theorem fw_no : Fw ds (fun _ => (none : Option (α × Nat))) := fun p b q hp e => by cases e
theorem fw_ite {c : Prop} [Decidable c] {f g : Nat → Option (α × Nat)} (h : Fw ds f) (k : Fw ds g) : Fw ds (fun p => if c then f p else g p) := by
  by_cases hc : c
  · simp only [if_pos hc]; exact h
  · simp only [if_neg hc]; exact k
theorem fw_if {f : Nat → Option (α × Nat)} {c : α → Prop} [DecidablePred c] (h : Fw ds f) : Fw ds (fun p => (f p).bind fun z => if c z.1 then some z else none) := fun p b q hp e => by
  cases hf : f p with
  | none => simp only [hf] at e; cases e
  | some z =>
    simp only [hf, Option.bind_some] at e
    split at e
    · cases e; exact h p _ _ hp hf
    · cases e
theorem fw_ifn {f : Nat → Option (α × Nat)} {c : α → Prop} [DecidablePred c] (h : Fw ds f) : Fw ds (fun p => (f p).bind fun z => if c z.1 then none else some z) := fun p b q hp e => by
  cases hf : f p with
  | none => simp only [hf] at e; cases e
  | some z =>
    simp only [hf, Option.bind_some] at e
    split at e
    · cases e
    · cases e; exact h p _ _ hp hf
theorem fw_num : Fw ds (pnum ds) := fun p a q hp e => (pnum_at e hp).2
theorem fw_cnt : Fw ds (pcnt ds) := fun p a q hp e => by have := (pcnt_le e).1; omega
theorem fw_byte : Fw ds (pbyte ds) := fun p a q hp e => by
  unfold pbyte at e
  split at e
  · cases e; omega
  · cases e
theorem fw_ch : Fw ds (pch ds) := fw_ifn (c := fun a => 2 ≤ a) fw_byte
theorem fw_sig : Fw ds (psig ds) := fw_if (c := fun a => okch a = true) fw_num
theorem fw_many {f : Nat → Option (α × Nat)} (h : Fw ds f) : ∀ k, Fw ds (pmany f k)
  | 0 => fw_ret
  | k + 1 => fw_bind h fun a => fw_map (fw_many h k)
theorem fw_list {P : Rdr α} (h : Fw ds (P ds)) : Fw ds (plist P ds) := fw_bind fw_cnt fun n => fw_many h n
theorem fw_str : Fw ds (pstr ds) := fw_list fw_sig
theorem fw_mk : Fw ds (pmk ds) := fw_bind fw_num fun a => fw_map fw_num
theorem fw_bh : Fw ds (pbh ds) := fw_bind fw_ch fun a => fw_ite (c := a = 1) (fw_map fw_mk) fw_ret
theorem fw_dd : Fw ds (pdd ds) := fw_bind fw_ch fun a => fw_ite (c := a = 1) (fw_map (g := Dd.back) fw_num) (fw_bind fw_str fun m => fw_bind (fw_list fw_mk) fun rm => fw_bind fw_bh fun bh => fw_bind fw_num fun n => fw_map (g := fun t => Dd.chg m rm bh n t) fw_str)
theorem fw_tr : Fw ds (ptr ds) := fw_bind fw_num fun a => fw_bind fw_num fun b => fw_map fw_dd
theorem fw_trs : Fw ds (ptrs ds) := fw_list fw_tr
theorem fw_pk : Fw ds (ppk ds) := fw_bind fw_byte fun a => fw_ite (c := a = 1) fw_trs fw_no
end
end My

end
section
set_option maxHeartbeats 4000000
/-! checksums, records: plain Lean -/
namespace My
open W PySem L2
/-- checksums -/
def ckS (t b : Int) : Int := (31 * t + b + 1) % 4294967296
def ck (l : List Int) : Int := l.foldl ckS 7
theorem ck_snoc (l : List Int) (b : Int) : ck (l ++ [b]) = ckS (ck l) b := by simp [ck]
theorem ckS_rng (t b : Int) : 0 ≤ ckS t b ∧ ckS t b < 4294967296 := ⟨Int.emod_nonneg _ (by decide), Int.emod_lt_of_pos _ (by decide)⟩
theorem fold_rng : ∀ (l : List Int) (t : Int), 0 ≤ t → t < 4294967296 → 0 ≤ l.foldl ckS t ∧ l.foldl ckS t < 4294967296
  | [], t, h, h' => ⟨h, h'⟩
  | b :: r, t, _, _ => fold_rng r _ (ckS_rng t b).1 (ckS_rng t b).2
theorem ck_rng (l : List Int) : 0 ≤ ck l ∧ ck l < 4294967296 := fold_rng l 7 (by decide) (by decide)
/-- what differs stays different -/
theorem ckS_inj {s t b : Int} (hs : 0 ≤ s ∧ s < 4294967296) (ht : 0 ≤ t ∧ t < 4294967296) (h : ckS s b = ckS t b) : s = t := by
  unfold ckS at h
  omega
theorem fold_inj : ∀ (l : List Int) {s t : Int}, 0 ≤ s ∧ s < 4294967296 → 0 ≤ t ∧ t < 4294967296 → l.foldl ckS s = l.foldl ckS t → s = t
  | [], _, _, _, _, h => h
  | b :: r, s, t, hs, ht, h => ckS_inj hs ht (fold_inj r (ckS_rng s b) (ckS_rng t b) h)
theorem ck_change (x y : List Int) (b c : Int) (hb : 0 ≤ b ∧ b < 256) (hc : 0 ≤ c ∧ c < 256) (n : b ≠ c) : ck (x ++ b :: y) ≠ ck (x ++ c :: y) := by
  unfold ck
  rw [List.foldl_append, List.foldl_append]
  intro h
  have := fold_inj y (ckS_rng _ b) (ckS_rng _ c) h
  unfold ckS at this
  omega
def tl4 (t : Int) : List Int := [t / 16777216, t / 65536 % 256, t / 256 % 256, t % 256]
theorem tl4_inj {s t : Int} (hs : 0 ≤ s ∧ s < 4294967296) (ht : 0 ≤ t ∧ t < 4294967296) (h : tl4 s = tl4 t) : s = t := by
  unfold tl4 at h
  simp only [List.cons.injEq, and_true] at h
  omega
def rec (d : List Int) : List Int := wn d.length ++ d ++ tl4 (ck d)
theorem rec_len (d : List Int) : (rec d).length = (wn d.length).length + d.length + 4 := by simp [rec, tl4]; omega
end My

end
section
set_option maxHeartbeats 4000000
/-! records, bases and notes as they are read: plain Lean -/
namespace My
open W PySem L2
/-- what was read is what is written -/
theorem rn_canon : ∀ (f : Nat) (l : List Int) (i : Nat) (t c : Int) (j : Nat) (n : Int), (∀ b ∈ l, 0 ≤ b ∧ b < 256) → rn f l i t c = some (j, n) → i ≤ j ∧ ∃ m : Nat, n = t + (m : Int) * c ∧ l.take (j - i) = wn m ∧ (0 < i → 0 < m)
  | 0, _, _, _, _, _, _, _, h => by cases h
  | _ + 1, [], _, _, _, _, _, _, h => by cases h
  | f + 1, b :: r, i, t, c, j, n, hb, h => by
    have hb0 := hb b (by simp)
    have h2 : (if b < 128 then (if b = 0 ∧ 0 < i then none else some (i + 1, t + b % 128 * c)) else rn f r (i + 1) (t + b % 128 * c) (c * 128)) = some (j, n) := h
    split at h2
    · rename_i hlt
      split at h2
      · cases h2
      · rename_i hz
        cases h2
        refine ⟨by omega, b.toNat, ?_, ?_, by omega⟩
        · rw [show b % 128 = b by omega, show ((b.toNat : Nat) : Int) = b by omega]
        · rw [show i + 1 - i = 1 by omega, wn_lo (by omega)]
          simp; omega
    · rename_i hge
      obtain ⟨h3, m, e1, e2, e3⟩ := rn_canon f r (i + 1) _ _ j n (fun x hx => hb x (by simp [hx])) h2
      have hm := e3 (by omega)
      refine ⟨by omega, (b % 128).toNat + 128 * m, ?_, ?_, by omega⟩
      · have e4 : (((b % 128).toNat + 128 * m : Nat) : Int) = b % 128 + 128 * (m : Int) := by
          rw [Int.natCast_add, Int.natCast_mul, Int.toNat_of_nonneg (Int.emod_nonneg _ (by decide))]; rfl
        rw [e1, e4, Int.add_mul, Int.add_assoc, Int.mul_comm c 128, ← Int.mul_assoc, Int.mul_comm (m : Int) 128]
      · rw [show j - i = (j - (i + 1)) + 1 by omega, List.take_succ_cons, e2, wn_hi (by omega : ¬ ((b % 128).toNat + 128 * m) < 128)]
        congr 1
        · omega
        · congr 1; omega
theorem pnum_canon {ds : List Int} {p n q : Nat} (hb : ∀ b ∈ ds, 0 ≤ b ∧ b < 256) (h : pnum ds p = some (n, q)) : p < q ∧ (ds.drop p).take (q - p) = wn n := by
  unfold pnum at h
  cases hr : rn 60 (ds.drop p) 0 0 1 with
  | none => rw [hr] at h; cases h
  | some z =>
    rw [hr] at h
    cases h
    obtain ⟨h1, m, e1, e2, _⟩ := rn_canon _ _ _ _ _ z.1 z.2 (fun b hx => hb b (List.mem_of_mem_drop hx)) hr
    have h2 := rn_pos _ _ _ _ _ z.1 z.2 hr
    refine ⟨by omega, ?_⟩
    rw [show p + z.1 - p = z.1 - 0 by omega, e2]
    congr 1; omega
theorem rn_take : ∀ (f : Nat) (l : List Int) (i : Nat) (t c : Int), rn f (l.take f) i t c = rn f l i t c
  | 0, _, _, _, _ => rfl
  | _ + 1, [], _, _, _ => rfl
  | f + 1, b :: r, i, t, c => by
    show (if b < 128 then _ else rn f (r.take f) _ _ _) = (if b < 128 then _ else rn f r _ _ _)
    rw [rn_take f r]
/-- the size that stands at start: where it ends, and it -/
def rsz (ds : List Int) (s : Nat) : Option (Nat × Int) := (pnum ds s).map fun z => (z.2, (z.1 : Int))
theorem rsz_slice {ds : List Int} {s : Nat} : (pnum ((ds.drop s).take 60) 0).map (fun z => (s + z.2, (z.1 : Int))) = rsz ds s := by
  unfold rsz pnum
  rw [List.drop_zero, rn_take]
  cases rn 60 (ds.drop s) 0 0 1 with
  | none => rfl
  | some z => simp
theorem rsz_nn {ds : List Int} {s b : Nat} {n : Int} (h : rsz ds s = some (b, n)) : 0 ≤ n := by
  unfold rsz at h
  cases hr : pnum ds s with
  | none => rw [hr] at h; cases h
  | some z => rw [hr] at h; cases h; exact Int.natCast_nonneg _
theorem rsz_num {ds : List Int} {s b n : Nat} (h : rsz ds s = some (b, (n : Int))) : pnum ds s = some (n, b) := by
  unfold rsz at h
  cases hr : pnum ds s with
  | none => rw [hr] at h; cases h
  | some z =>
    rw [hr] at h
    obtain ⟨z1, z2⟩ := z
    simp only [Option.map_some, Option.some.injEq, Prod.mk.injEq] at h
    obtain ⟨rfl, h⟩ := h
    rw [show z1 = n by omega]
theorem rsz_of {ds : List Int} {s b n : Nat} (h : pnum ds s = some (n, b)) : rsz ds s = some (b, (n : Int)) := by unfold rsz; rw [h]; rfl
theorem rsz_no {ds : List Int} {s : Nat} (h : pnum ds s = none) : rsz ds s = none := by unfold rsz; rw [h]; rfl
def mid (ds : List Int) (b n : Nat) : List Int := (ds.drop b).take n
def Gd (ds : List Int) (b n : Nat) : Prop := b + n + 4 ≤ ds.length ∧ tl4 (ck (mid ds b n)) = mid ds (b + n) 4
def Bd (ds : List Int) (s : Nat) : Prop := ∀ b n : Nat, rsz ds s = some (b, (n : Int)) → ¬ Gd ds b n
/-- from s on: these records, and where each ends -/
inductive Re (ds : List Int) : Nat → List (List Int × Nat) → Prop
  | stop {s : Nat} : Bd ds s → Re ds s []
  | more {s b n : Nat} {l : List (List Int × Nat)} : rsz ds s = some (b, (n : Int)) → Gd ds b n → Re ds (b + n + 4) l → Re ds s ((mid ds b n, b + n + 4) :: l)
def lastE (s : Nat) : List (List Int × Nat) → Nat
  | [] => s
  | z :: l => lastE z.2 l
theorem Re.bad {ds : List Int} {s : Nat} {l : List (List Int × Nat)} (h : Re ds s l) (n : Bd ds s) : l = [] := by
  cases h with
  | stop _ => rfl
  | more h1 h2 _ => exact absurd h2 (n _ _ h1)
theorem Re.good {ds : List Int} {s b n : Nat} {l : List (List Int × Nat)} (h : Re ds s l) (h1 : rsz ds s = some (b, (n : Int))) (h2 : Gd ds b n) : ∃ r, l = (mid ds b n, b + n + 4) :: r ∧ Re ds (b + n + 4) r := by
  cases h with
  | stop z => exact absurd h2 (z _ _ h1)
  | more h3 h4 r =>
    rw [h1] at h3
    cases h3
    exact ⟨_, rfl, r⟩
theorem Re.ex (ds : List Int) : ∀ (k s : Nat), ds.length + 1 - s ≤ k → ∃ l, Re ds s l
  | 0, s, h => ⟨[], .stop fun b n hz g => by
      have h1 := rsz_num hz
      have h2 := g.1
      unfold pnum at h1
      rw [List.drop_of_length_le (by omega)] at h1
      cases h1⟩
  | k + 1, s, h => by
    by_cases hg : ∃ b n : Nat, rsz ds s = some (b, (n : Int)) ∧ Gd ds b n
    · obtain ⟨b, n, h1, h2⟩ := hg
      have h3 := rsz_num h1
      have h4 : s < b := by
        by_cases hs : s ≤ ds.length
        · exact (pnum_at h3 hs).1
        · unfold pnum at h3
          rw [List.drop_of_length_le (by omega)] at h3
          cases h3
      obtain ⟨l, hl⟩ := Re.ex ds k (b + n + 4) (by have := h2.1; omega)
      exact ⟨_, .more h1 h2 hl⟩
    · exact ⟨[], .stop fun b n h1 h2 => hg ⟨b, n, h1, h2⟩⟩
theorem Re.len {ds : List Int} {s : Nat} {l : List (List Int × Nat)} (h : Re ds s l) : s ≤ ds.length → l.length ≤ ds.length - s := by
  induction h with
  | stop _ => intro _; exact Nat.zero_le _
  | more h1 h2 _ ih =>
    intro hs
    have h4 := (pnum_at (rsz_num h1) hs).1
    have := ih h2.1
    have := h2.1
    rw [List.length_cons]; omega
theorem Re.recs {ds : List Int} {s : Nat} {l : List (List Int × Nat)} (h : Re ds s l) : ∀ z ∈ l, z.1.length ≤ ds.length ∧ (∀ b ∈ z.1, b ∈ ds) := by
  induction h with
  | stop _ => simp
  | more h1 h2 _ ih =>
    intro z hz
    rcases List.mem_cons.mp hz with rfl | hz
    · refine ⟨?_, fun b hb => List.mem_of_mem_drop (List.mem_of_mem_take hb)⟩
      show (mid ds _ _).length ≤ _
      unfold mid; rw [List.length_take, List.length_drop]; omega
    · exact ih z hz
/-- a record's bytes are its written form -/
theorem Re.canon {ds : List Int} {s b n : Nat} (hb : ∀ b ∈ ds, 0 ≤ b ∧ b < 256) (h1 : rsz ds s = some (b, (n : Int))) (hl : b + n + 4 ≤ ds.length) : (ds.drop s).take (b + n + 4 - s) = My.rec (mid ds b n) ↔ Gd ds b n := by
  obtain ⟨h2, h3⟩ := pnum_canon hb (rsz_num h1)
  have hml : (mid ds b n).length = n := by unfold mid; rw [List.length_take, List.length_drop]; omega
  have e : (ds.drop s).take (b + n + 4 - s) = wn n ++ mid ds b n ++ mid ds (b + n) 4 := by
    rw [show b + n + 4 - s = (b - s) + (n + 4) by omega, List.take_add, h3, List.drop_drop, show s + (b - s) = b by omega, List.take_add, List.drop_drop, List.append_assoc]; rfl
  rw [e]
  unfold My.rec Gd
  rw [hml]
  constructor
  · intro z
    exact ⟨hl, (List.append_cancel_left z).symm⟩
  · rintro ⟨_, z⟩
    rw [z]
theorem Re.size {ds : List Int} {s b n : Nat} (hb : ∀ b ∈ ds, 0 ≤ b ∧ b < 256) (h1 : rsz ds s = some (b, (n : Int))) (g : Gd ds b n) : s + (My.rec (mid ds b n)).length = b + n + 4 := by
  have h2 := (Re.canon hb h1 g.1).2 g
  have h3 := (pnum_canon hb (rsz_num h1)).1
  rw [← h2, List.length_take, List.length_drop]
  have := g.1
  omega
theorem Re.ends {ds : List Int} {s : Nat} {l : List (List Int × Nat)} (hb : ∀ b ∈ ds, 0 ≤ b ∧ b < 256) (h : Re ds s l) : ∀ {z r}, l = z :: r → z.2 = s + (My.rec z.1).length ∧ Re ds z.2 r := by
  cases h with
  | stop _ => intro z r e; cases e
  | more h1 h2 h3 => intro z r e; cases e; exact ⟨(Re.size hb h1 h2).symm, h3⟩
/-! bases and notes -/
def pdeeds : Rdr (List Dd) := plist pdd
def prows : Rdr (List (List Dd)) := fun ds p => pmany (pdeeds ds) 8 p
def pend {α : Type} (ds : List Int) (z : Option (α × Nat)) : Option α := z.bind fun y => if y.2 < ds.length then none else some y.1
def phead {α : Type} (k : Int) (P : Rdr α) (ds : List Int) : Option α := (pbyte ds 0).bind fun z => if z.1 = k then pend ds (P ds z.2) else none
def pturn : List Int → Option Nat := phead 1 pnum
def pbs : Rdr (Nat × List (List Dd)) := fun ds p => (pnum ds p).bind fun n => (prows ds n.2).map fun r => ((n.1, r.1), r.2)
def pbase : List Int → Option (Nat × List (List Dd)) := phead 3 pbs
def pnote : List Int → Option (List Tri) := phead 4 ptrs
abbrev Rws := List (List Dd)
abbrev Bs := Nat × Rws
def nx1 (rows : Rws) (t : Tri) : Option Rws := if t.r < 8 ∧ t.p = (rows.getD t.r []).length + 1 then some (rows.set t.r (rows.getD t.r [] ++ [t.d])) else none
def nxs (rows : Rws) : List Tri → Option Rws
  | [] => some rows
  | t :: ts => (nx1 rows t).bind fun r => nxs r ts
theorem nxs_snoc (rows : Rws) (t : Tri) : ∀ (ts : List Tri), nxs rows (ts ++ [t]) = (nxs rows ts).bind fun r => nx1 r t := by
  intro ts
  induction ts generalizing rows with
  | nil => show (nx1 rows t).bind (fun r => some r) = nx1 rows t; cases nx1 rows t <;> rfl
  | cons a r ih =>
    show (nx1 rows a).bind (fun z => nxs z (r ++ [t])) = ((nx1 rows a).bind fun z => nxs z r).bind _
    cases nx1 rows a with
    | none => rfl
    | some z => exact ih z
theorem nxs_app (rows : Rws) (ts us : List Tri) : nxs rows (ts ++ us) = (nxs rows ts).bind fun r => nxs r us := by
  induction ts generalizing rows with
  | nil => rfl
  | cons a r ih =>
    show (nx1 rows a).bind (fun z => nxs z (r ++ us)) = ((nx1 rows a).bind fun z => nxs z r).bind _
    cases nx1 rows a with
    | none => rfl
    | some z => exact ih z
theorem nxs_none {rows : Rws} {ts : List Tri} {i : Nat} (h : nxs rows (ts.take i) = none) : nxs rows ts = none := by
  rw [← List.take_append_drop i ts, nxs_app, h]; rfl
theorem nxs_step {rows r : Rws} {ts : List Tri} {i : Nat} {t : Tri} (h : nxs rows (ts.take i) = some r) (ht : ts[i]? = some t) : nxs rows (ts.take (i + 1)) = nx1 r t := by
  rw [List.take_add_one, ht]
  show nxs rows (ts.take i ++ [t]) = _
  rw [nxs_snoc, h]; rfl
theorem nx1_len {rows r : Rws} {t : Tri} (h : nx1 rows t = some r) : r.length = rows.length := by
  unfold nx1 at h
  split at h
  · cases h; rw [List.length_set]
  · cases h
theorem nxs_len {ts : List Tri} : ∀ {rows r : Rws}, nxs rows ts = some r → r.length = rows.length := by
  induction ts with
  | nil => intro rows r h; cases h; rfl
  | cons t ts ih =>
    intro rows r h
    have h : (nx1 rows t).bind (fun r => nxs r ts) = some r := h
    cases hn : nx1 rows t with
    | none => rw [hn] at h; cases h
    | some z => rw [hn] at h; rw [ih (rows := z) h, nx1_len hn]
def note1 (b : Bs) (rec : List Int) : Option Bs := (pnote rec).bind fun ts => (nxs b.2 ts).map fun rows => (b.1 + 1, rows)
def scan (b : Bs) (e : Nat) : List (List Int × Nat) → List Bs × Nat
  | [] => ([], e)
  | z :: l => match note1 b z.1 with
    | none => ([], e)
    | some b' => (b' :: (scan b' z.2 l).1, (scan b' z.2 l).2)
theorem scan_none {b : Bs} {e : Nat} {z : List Int × Nat} {l : List (List Int × Nat)} (h : note1 b z.1 = none) : scan b e (z :: l) = ([], e) := by show (match note1 b z.1 with | none => _ | some b' => _) = _; rw [h]
theorem scan_some {b b' : Bs} {e : Nat} {z : List Int × Nat} {l : List (List Int × Nat)} (h : note1 b z.1 = some b') : scan b e (z :: l) = (b' :: (scan b' z.2 l).1, (scan b' z.2 l).2) := by show (match note1 b z.1 with | none => _ | some b' => _) = _; rw [h]
/-- what a file tells -/
def tell (l : List (List Int × Nat)) : Option (Nat × List Bs × Nat) :=
  match l with
  | z0 :: z1 :: z2 :: r => if z2.1 = [2] then (pturn z0.1).bind fun t => (pbase z1.1).map fun b => (t, b :: (scan b z2.2 r).1, (scan b z2.2 r).2) else none
  | _ => none
end My

end
section
set_option maxHeartbeats 4000000
local macro_rules | `(tactic| walk_at "k") => `(tactic| first
  | assumption
  | exact W.Keep.trans (by assumption) (by assumption)
  | exact And.intro (by grind [W.Keep, W.Kp]) (by grind [W.Keep, W.Kt])
  | grind [W.Keep, W.Kp])
local macro_rules | `(tactic| walk_at "f") => `(tactic| first
  | assumption
  | exact L2.SqL.of (by assumption)
  | exact L2.SqT.of (by assumption)
  | exact L2.SqL.of L2.upd_same
  | exact L2.SqT.of L2.upd_same
  | exact L2.upd_same
  | exact W.carryL (by assumption) (by assumption)
  | exact W.carryL (by assumption) (by walk_at "k")
  | exact W.carryT (by assumption) (by walk_at "k")
  | exact W.carry (by assumption) (by grind [W.Keep, W.Kp])
  | exact L2.SqL.of (W.carry (by assumption) (by grind [W.Keep, W.Kp]))
  | exact L2.SqT.of (W.carry (by assumption) (by grind [W.Keep, W.Kp])))
local macro_rules | `(tactic| walk_at "a") => `(tactic| first
  | assumption
  | rfl)
local macro_rules | `(tactic| walk_at "n") => `(tactic| first
  | assumption
  | exact Nat.zero_le _
  | decide
  | (simp only [List.length_cons, List.length_nil]; decide)
  | omega
  | (simp only [PySem.sizeLine_eq]; omega)
  | (simp only [List.length_map, List.length_append, List.length_cons, List.length_nil, PySem.sizeLine_eq]; omega)
  | (simp only [List.length_map, List.length_append, List.length_cons, List.length_nil, List.length_take, List.length_drop, PySem.sizeLine_eq]; omega)
  | (simp only [List.length_map, List.length_append, List.length_cons, List.length_nil, PySem.sizeLine_eq] at *; omega))
local macro_rules | `(tactic| walk_at "c") => `(tactic| first
  | assumption
  | decide
  | exact And.intro (by decide) (by decide)
  | exact Or.inr (And.intro (by decide) (by decide))
  | exact Or.inl (And.intro (by decide) (by decide))
  | exact And.intro (by decide) (And.intro (by decide) (by decide))
  | exact (show (0 : Int) < _ by decide)
  | exact And.intro (by omega) (by omega)
  | exact Or.inl (And.intro (by omega) (by omega))
  | exact Or.inr (And.intro (by omega) (by omega))
  | exact (show (0 : Int) < _ by omega))
local macro_rules | `(tactic| walk_at "v") => `(tactic| with_reducible first
  | refine W.v0 ?_ | refine W.v1 ?_ | refine W.v2 ?_ | refine W.v3 ?_ | refine W.v4 ?_ | refine W.v5 ?_ | refine W.v6 ?_ | refine W.v7 ?_ | refine W.v8 ?_
  | refine W.v9 ?_ | refine W.v10 ?_ | refine W.v11 ?_ | refine W.v12 ?_ | refine W.v13 ?_ | refine W.v14 ?_ | refine W.v15 ?_ | refine W.v16 ?_ | refine W.v17 ?_
  | refine W.g0 ?_ | refine W.g1 ?_ | refine W.g2 ?_ | refine W.g3 ?_ | refine W.g4 ?_ | refine W.g5 ?_ | refine W.g6 ?_ | refine W.g7 ?_ | refine W.g8 ?_
  | refine W.g9 ?_ | refine W.g10 ?_ | refine W.g11 ?_ | refine W.g12 ?_ | refine W.g13 ?_ | refine W.g14 ?_ | refine W.g15 ?_)
local macro_rules | `(tactic| walk_at "e") => `(tactic| with_reducible first
  | refine W.e_c ?_ | refine W.e_op ?_ | refine W.s_seq ?_ | refine W.s_asg ?_ | refine W.e_CB ?_ | refine W.a_cons ?_ | refine W.a_nil ?_ | refine W.e_call ?_
  | refine W.t_test ?_ | refine W.w_B ?_ | refine W.s_if ?_ | refine W.s_ret ?_ | refine W.s_drop ?_ | refine W.e_un ?_ | refine W.e_fld ?_ | refine W.s_fld ?_
  | refine W.e_meth ?_ | refine W.e_if ?_ | refine W.e_lst ?_ | refine W.e_tup ?_ | refine W.e_sl ?_ | refine W.o_none ?_ | refine W.o_some ?_ | refine W.w_part ?_
  | refine W.e_bm ?_ | refine W.e_bm0 ?_ | refine W.t_B ?_ | refine W.t_and ?_ | refine W.t_or ?_ | refine W.t_not ?_ | refine W.e_andV ?_ | refine W.e_orV ?_ | refine W.e_notV ?_ | refine W.w_BV ?_ | refine W.e_chain ?_
  | refine W.s_aug ?_ | refine W.s_augS ?_ | refine W.s_next ?_ | refine W.s_brk ?_ | refine W.s_cont ?_ | refine W.s_retN ?_ | refine W.s_fa ?_ | refine W.e_make ?_ | refine W.w_make ?_
  | refine W.w_I0 ?_ | refine W.w_U ?_ | refine W.w_aug ?_ | refine W.w_eqI ?_ | refine W.w_neI ?_ | refine W.w_eqS ?_ | refine W.w_neS ?_ | refine W.w_eqB ?_ | refine W.w_neB ?_
  | refine W.w_int ?_ | refine W.w_intB ?_ | refine W.w_min ?_ | refine W.w_max ?_ | refine W.w_isN ?_ | refine W.w_isI ?_ | refine W.w_isS ?_ | refine W.w_isB ?_ | refine W.w_isR ?_
  | refine W.w_notN ?_ | refine W.w_notI ?_ | refine W.w_notR ?_ | refine W.w_notS ?_ | refine W.w_eqNI ?_ | refine W.w_neNI ?_ | refine W.w_eqN ?_ | refine W.w_neN ?_
  | refine W.s_forL ?_ | refine W.s_forT ?_ | refine W.s_forS ?_ | refine W.s_forR1 ?_ | refine W.s_forR2 ?_ | refine W.s_forR3 ?_ | refine W.s_forZ ?_ | refine W.s_forE ?_
  | refine W.e_lcL ?_ | refine W.e_lcT ?_ | refine W.w_ord ?_ | refine W.e_lcR1 ?_ | refine W.e_lcR2 ?_ | refine W.e_lcZ ?_ | refine W.e_lcS ?_ | refine W.t_yes ?_ | refine W.w_gcons ?_ | refine W.w_gnil ?_ | refine W.s_par ?_ | refine W.w_par ?_ | refine W.g_sub ?_ | refine W.e_m1 ?_ | refine W.w_strR ?_ | refine W.w_rAdd ?_ | refine W.w_rSub ?_ | refine W.s_raise ?_ | refine W.s_try ?_ | refine W.e_methS ?_ | refine W.e_callS ?_)
local macro_rules | `(tactic| walk_at "w") => `(tactic| first
  | ((with_reducible refine' W.w_I ?wh ?wq); (case wh => walk_at "c"))
  | ((with_reducible refine' W.w_ixL (n := 0) ?wh ?we ?wq); (case wh => walk_at "f"); (case we => walk_at "a"))
  | ((with_reducible refine' W.w_ixT (n := 0) ?wh ?we ?wq); (case wh => walk_at "f"); (case we => walk_at "a"))
  | ((with_reducible refine' W.w_lenL ?wh ?wq); (case wh => walk_at "f"))
  | ((with_reducible refine' W.w_lenT ?wh ?wq); (case wh => walk_at "f"))
  | ((with_reducible refine' W.w_lenS ?wh ?wq); (case wh => walk_at "n"))
  | ((with_reducible refine' W.w_app ?wh ?we ?wq); (case wh => walk_at "f"); (case we => walk_at "n"))
  | ((with_reducible refine' W.w_meth ?wh ?we ?wq); (case wh => walk_at "f"); (case we => first | assumption | rfl))
  | ((with_reducible refine' W.w_ixLTl ?wh ?we ?wq); (case wh => walk_at "f"); (case we => walk_at "a"))
  | ((with_reducible refine' W.w_ixLTt ?wh ?we ?wq); (case wh => walk_at "f"); (case we => walk_at "a"))
  | ((with_reducible refine' W.w_addS ?wh ?wq); (case wh => walk_at "n"))
  | ((with_reducible refine' W.w_set ?wh ?we ?wq); (case wh => walk_at "f"); (case we => walk_at "a"))
  | ((with_reducible refine' W.w_tup ?wh ?we ?wq); (case wh => walk_at "f"); (case we => first | assumption | rfl))
  | ((with_reducible refine' W.w_slS ?wh ?wq); (case wh => walk_at "n"))
  | ((with_reducible refine' W.w_rApp ?wh ?we ?wq); (case wh => walk_at "f"); (case we => walk_at "n"))
  | ((with_reducible refine' W.w_newL ?wh ?wq); (case wh => walk_at "n"))
  | ((with_reducible refine' W.w_newT ?wh ?wq); (case wh => walk_at "n"))
  | ((with_reducible refine' W.w_listL ?wh ?wq); (case wh => walk_at "f"))
  | ((with_reducible refine' W.w_tupL ?wh ?wq); (case wh => walk_at "f"))
  | ((with_reducible refine' W.w_slL ?wh ?wq); (case wh => walk_at "f"))
  | ((with_reducible refine' W.w_cat ?wh ?wf ?we ?wq); (case wh => walk_at "f"); (case wf => walk_at "f"); (case we => walk_at "n"))
  | ((with_reducible refine' W.w_catT ?wh ?wf ?wx ?wy ?we ?wq); (case wh => walk_at "f"); (case wf => walk_at "f"); (case wx => exact List.cons_ne_nil _ _); (case wy => exact List.cons_ne_nil _ _); (case we => walk_at "n"))
  | ((with_reducible refine' W.w_ext ?wh ?wf ?we ?wq); (case wh => walk_at "f"); (case wf => walk_at "f"); (case we => walk_at "n"))
  | ((with_reducible refine' W.w_recv ?wh ?wq); (case wh => walk_at "f"))
  | ((with_reducible refine' W.w_isi1 ?wh ?we ?wq); (case wh => assumption); (case we => decide +kernel))
  | ((with_reducible refine' W.w_isi0 ?wh ?we ?wq); (case wh => assumption); (case we => decide +kernel))
  | ((with_reducible refine' W.w_isiT10 ?wh ?wf ?we ?wg ?wq); (case wh => assumption); (case wf => walk_at "f"); (case we => decide +kernel); (case wg => decide +kernel))
  | ((with_reducible refine' W.w_isiT01 ?wh ?wf ?we ?wg ?wq); (case wh => assumption); (case wf => walk_at "f"); (case we => decide +kernel); (case wg => decide +kernel))
  | ((with_reducible refine' W.w_isiT00 ?wh ?wf ?we ?wg ?wq); (case wh => assumption); (case wf => walk_at "f"); (case we => decide +kernel); (case wg => decide +kernel))
  | ((with_reducible refine' W.w_ins ?wh ?we ?wf ?wq); (case wh => walk_at "f"); (case we => walk_at "n"); (case wf => walk_at "c"))
  | ((with_reducible refine' W.w_unl ?wh ?we ?wq); (case wh => walk_at "f"); (case we => first | assumption | rfl))
  | ((with_reducible refine' W.ite_T ?_))
  | ((with_reducible refine' W.ite_F ?_))
  | ((with_reducible refine' W.ite_nT ?_))
  | ((with_reducible refine' W.ite_nF ?_))
  | ((with_reducible refine' W.ite_self ?_))
  | ((with_reducible refine' W.ite_nself ?_))
  | ((with_reducible refine' W.ite_tf ?_))
  | ((with_reducible refine' W.ite_ft ?_))
  | ((with_reducible refine' W.ite_ntf ?_))
  | ((with_reducible refine' W.ite_nft ?_))
  | ((with_reducible refine' And.intro ?wl ?wq); (case wl => rfl)))
local macro_rules | `(tactic| walk_at "i") => `(tactic| try (dsimp only [L2.cxOf, L2.wipe, List.map, List.set]))
local macro_rules | `(tactic| walk_at "s") => `(tactic| first | walk_at "v" | walk_at "e" | walk_at "w")
local macro_rules | `(tactic| walk_at "r") => `(tactic| repeat walk_at "s")

namespace My
open PySem L2 W
/-! deeds and bases on a heap. H0: what they are new to -/
def deF (rs : Addr) : List (Str × V) := [("rows", .ref rs)]
def baF (n : Nat) (d : Addr) : List (Str × V) := [("commits", .int (n : Int)), ("deeds", .ref d)]
theorem ne_cd : ¬ (("commits" : Str) = "deeds") := by decide +kernel
theorem lkD {rs : Addr} : (deF rs).lookup ("rows" : Str) = some (.ref rs) := by simp [deF, List.lookup]
theorem lkB1 {n : Nat} {d : Addr} : (baF n d).lookup ("commits" : Str) = some (.int (n : Int)) := by simp [baF, List.lookup]
theorem lkB2 {n : Nat} {d : Addr} : (baF n d).lookup ("deeds" : Str) = some (.ref d) := by
  have h : (("deeds" : Str) == "commits") = false := by decide +kernel
  simp [baF, List.lookup, h]
theorem lkDn {rs : Addr} {m : Str} (h1 : (m == ("rows" : Str)) = false) : (deF rs).lookup m = none := by simp [deF, List.lookup, h1]
theorem lkBn {n : Nat} {d : Addr} {m : Str} (h1 : (m == ("commits" : Str)) = false) (h2 : (m == ("deeds" : Str)) = false) : (baF n d).lookup m = none := by simp [baF, List.lookup, h1, h2]
theorem pfD0 {rs : Addr} : putF "rows" (.ref rs) [] = deF rs := rfl
theorem pfD {rs rs' : Addr} : putF "rows" (.ref rs') (deF rs) = deF rs' := by
  show (if ("rows" : Str) = "rows" then _ else _) = _
  rw [if_pos rfl]; rfl
theorem pfB0 {d : Addr} : putF "deeds" (.ref d) (putF "commits" (.int 0) []) = baF 0 d := by
  show (if ("commits" : Str) = "deeds" then _ else (("commits" : Str), V.int 0) :: [(("deeds" : Str), V.ref d)]) = _
  rw [if_neg ne_cd]; rfl
theorem pfB1 {n : Nat} {m : Nat} {d : Addr} : putF "commits" (.int (m : Int)) (baF n d) = baF m d := by
  show (if ("commits" : Str) = "commits" then _ else _) = _
  rw [if_pos rfl]; rfl
theorem pfB2 {n : Nat} {d d' : Addr} : putF "deeds" (.ref d') (baF n d) = baF n d' := by
  show (if ("commits" : Str) = "deeds" then _ else (("commits" : Str), V.int (n : Int)) :: (if ("deeds" : Str) = "deeds" then _ else _)) = _
  rw [if_neg ne_cd, if_pos rfl]; rfl
def Row (H : Hp) (t : Addr) (row : List Dd) : Prop := ∃ ws, H t = some (.lst ws) ∧ Paired (fun v d => vD H d v) ws row
theorem Row.mono {H H' : Hp} {t : Addr} {row : List Dd} {S : List Addr} (h : Row H t row) (k : Keep S H H') (n : t ∉ S) : Row H' t row := by
  obtain ⟨ws, h1, h2⟩ := h
  exact ⟨ws, k.get h1 n, Paired.mapP h2 fun _ _ h => vD.keep h k⟩
def RowsN (H0 H : Hp) (rs : Addr) (rows : Rws) : Prop := ∃ ts : List Addr, H rs = some (.lst (ts.map V.ref)) ∧ (rs :: ts).Nodup ∧ Paired (fun t row => Row H t row) ts rows ∧ ∀ t ∈ rs :: ts, H0 t = none
theorem pd_mem {α β : Type} {F G : α → β → Prop} : ∀ {xs : List α} {ys : List β}, Paired F xs ys → (∀ x y, x ∈ xs → F x y → G x y) → Paired G xs ys
  | _, _, .nil, _ => .nil
  | _, _, .cons h r, k => .cons (k _ _ (by simp) h) (pd_mem r fun x y hx => k x y (by simp [hx]))
theorem pd_all {α β : Type} {F G : α → β → Prop} : ∀ {xs : List α} {ys : List β}, Paired F xs ys → (∀ (j : Nat) x y, xs[j]? = some x → ys[j]? = some y → F x y → G x y) → Paired G xs ys
  | _, _, .nil, _ => .nil
  | _, _, .cons h r, k => .cons (k 0 _ _ rfl rfl h) (pd_all r fun j x y hx hy => k (j + 1) x y (by rw [List.getElem?_cons_succ]; exact hx) (by rw [List.getElem?_cons_succ]; exact hy))
theorem pd_set {α β : Type} {F G : α → β → Prop} : ∀ {xs : List α} {ys : List β} (i : Nat) (y' : β), Paired F xs ys → (∀ j x y, j ≠ i → xs[j]? = some x → ys[j]? = some y → F x y → G x y) → (∀ x y, xs[i]? = some x → ys[i]? = some y → F x y → G x y') → Paired G xs (ys.set i y')
  | _, _, _, _, .nil, _, _ => .nil
  | _, _, 0, y', .cons h r, k1, k2 => .cons (k2 _ _ rfl rfl h) (pd_all r fun j x y hx hy => k1 (j + 1) x y (by omega) (by rw [List.getElem?_cons_succ]; exact hx) (by rw [List.getElem?_cons_succ]; exact hy))
  | _, _, i + 1, y', .cons h r, k1, k2 => .cons (k1 0 _ _ (by omega) rfl rfl h) (pd_set i y' r (fun j x y hj hx hy => k1 (j + 1) x y (by omega) (by rw [List.getElem?_cons_succ]; exact hx) (by rw [List.getElem?_cons_succ]; exact hy)) (fun x y hx hy => k2 x y (by rw [List.getElem?_cons_succ]; exact hx) (by rw [List.getElem?_cons_succ]; exact hy)))
theorem RowsN.mono {H0 H H' : Hp} {rs : Addr} {rows : Rws} (h : RowsN H0 H rs rows) (k : Keep [] H H') : RowsN H0 H' rs rows := by
  obtain ⟨ts, h1, h2, h3, h4⟩ := h
  exact ⟨ts, k.get h1 (by simp), h2, Paired.mapP h3 fun _ _ h => h.mono k (by simp), h4⟩
theorem RowsN.back {G H0 H : Hp} {rs : Addr} {rows : Rws} (h : RowsN H0 H rs rows) (k : Keep [] G H0) : RowsN G H rs rows := by
  obtain ⟨ts, h1, h2, h3, h4⟩ := h
  exact ⟨ts, h1, h2, h3, fun t ht => k.free (h4 t ht) (by simp)⟩
theorem RowsN.any {H0 H : Hp} {rs : Addr} {rows : Rws} (h : RowsN H0 H rs rows) : RowsN (fun _ => none) H rs rows := by
  obtain ⟨ts, h1, h2, h3, h4⟩ := h
  exact ⟨ts, h1, h2, h3, fun t ht => rfl⟩
theorem RowsN.len {H0 H : Hp} {rs : Addr} {rows : Rws} {us : List V} (h : RowsN H0 H rs rows) (hu : H rs = some (.lst us)) : us.length = rows.length := by
  obtain ⟨ts, h1, h2, h3, h4⟩ := h
  rw [h1] at hu
  cases hu
  rw [List.length_map]; exact Paired.length h3
theorem RowsN.start {H0 H : Hp} {rs : Addr} (n : H0 rs = none) (h : H rs = some (.lst [])) : RowsN H0 H rs [] := ⟨[], h, by simp, .nil, by simpa using n⟩
/-- one row more -/
theorem RowsN.push {H0 H H1 H2 : Hp} {rs t : Addr} {rows : Rws} {row : List Dd} {us : List V} (h : RowsN H0 H rs rows) (k0 : Keep [] H0 H) (hu : H rs = some (.lst us)) (nt : H t = none) (k1 : Keep [] H H1) (hr : Row H1 t row) (k2 : Keep [rs] H1 H2) (h2 : H2 rs = some (.lst (us ++ [.ref t]))) : RowsN H0 H2 rs (rows ++ [row]) := by
  obtain ⟨ts, h1, hn, h3, h4⟩ := h
  rw [h1] at hu
  cases hu
  have nrs : rs ≠ t := ne_of_none h1 nt
  have nts : ∀ x ∈ ts, x ≠ t := fun x hx e => by
    subst e
    obtain ⟨i, hi, e⟩ := List.getElem_of_mem hx
    obtain ⟨row, hrow, ws, hws, _⟩ := pd_get h3 (List.getElem?_eq_getElem hi)
    rw [e] at hws
    rw [hws] at nt; cases nt
  refine ⟨ts ++ [t], by rw [h2, List.map_append]; rfl, ?_, ?_, ?_⟩
  · rw [← List.cons_append, List.nodup_append]
    refine ⟨hn, by simp, fun x hx y hy => ?_⟩
    rw [List.mem_singleton] at hy
    subst hy
    rcases List.mem_cons.mp hx with rfl | hx
    · exact nrs
    · exact nts x hx
  · have hrs : ∀ x ∈ ts, x ∉ [rs] := fun x hx z => by
      rw [List.mem_singleton] at z
      subst z
      exact (List.nodup_cons.mp hn).1 hx
    exact Paired.snoc (pd_mem h3 fun x y hx h => (h.mono k1 (by simp)).mono k2 (hrs x hx)) (hr.mono k2 (by simp [Ne.symm nrs]))
  · intro x hx
    rw [← List.cons_append] at hx
    rcases List.mem_append.mp hx with hx | hx
    · exact h4 x hx
    · rw [List.mem_singleton] at hx
      subst hx
      exact k0.free nt (by simp)
/-- a row grows -/
theorem RowsN.grow {H0 H H1 : Hp} {rs t : Addr} {rows : Rws} {ts : List Addr} {row : List Dd} {ws : List V} {v : V} {d : Dd} {i : Nat} (h1 : H rs = some (.lst (ts.map V.ref))) (hn : (rs :: ts).Nodup) (h3 : Paired (fun t row => Row H t row) ts rows) (h4 : ∀ t ∈ rs :: ts, H0 t = none)
    (ht : ts[i]? = some t) (hrow : rows[i]? = some row) (hws : H t = some (.lst ws)) (hd : vD H d v) (k : Keep [t] H H1) (hg : H1 t = some (.lst (ws ++ [v]))) : RowsN H0 H1 rs (rows.set i (row ++ [d])) := by
  have htm := List.mem_of_getElem? ht
  have hn2 := List.nodup_cons.mp hn
  have nrs : rs ≠ t := fun e => by subst e; exact hn2.1 htm
  refine ⟨ts, k.get h1 (by simp [nrs]), hn, pd_set i _ h3 (fun j x y hj hx hy h => h.mono k fun z => ?_) (fun x y hx hy h => ?_), h4⟩
  · rw [List.mem_singleton] at z
    subst z
    have hjl := (List.getElem?_eq_some_iff.mp hx).1
    have hil := (List.getElem?_eq_some_iff.mp ht).1
    have e1 := (List.getElem?_eq_some_iff.mp hx).2
    have e2 := (List.getElem?_eq_some_iff.mp ht).2
    exact hj ((List.getElem_inj hn2.2).mp (e1.trans e2.symm))
  · rw [ht] at hx
    cases hx
    rw [hrow] at hy
    cases hy
    obtain ⟨ws', e, hp⟩ := h
    rw [hws] at e
    cases e
    exact ⟨_, hg, Paired.snoc (Paired.mapP hp fun _ _ h => vD.keep h k) (vD.keep hd k)⟩
def DeN (H0 : Hp) (C : Addr) (H : Hp) (d : Addr) (rows : Rws) : Prop := ∃ dx rs, H d = some (.ins C dx (deF rs)) ∧ RowsN H0 H rs rows ∧ H0 d = none
theorem DeN.mono {H0 H H' : Hp} {C d : Addr} {rows : Rws} (h : DeN H0 C H d rows) (k : Keep [] H H') : DeN H0 C H' d rows := by
  obtain ⟨dx, rs, h1, h2, h3⟩ := h
  exact ⟨dx, rs, k.get h1 (by simp), h2.mono k, h3⟩
theorem DeN.back {G H0 H : Hp} {C d : Addr} {rows : Rws} (h : DeN H0 C H d rows) (k : Keep [] G H0) : DeN G C H d rows := by
  obtain ⟨dx, rs, h1, h2, h3⟩ := h
  exact ⟨dx, rs, h1, h2.back k, k.free h3 (by simp)⟩
theorem DeN.any {H0 H : Hp} {C d : Addr} {rows : Rws} (h : DeN H0 C H d rows) : DeN (fun _ => none) C H d rows := by
  obtain ⟨dx, rs, h1, h2, h3⟩ := h
  exact ⟨dx, rs, h1, h2.any, rfl⟩
/-- rows as plain data -/
def pdRow (row : List Dd) : PyData := .tuple (row.map pdD)
theorem pairs_da {H : Hp} {ws : List V} {row : List Dd} (h : Paired (fun v d => vD H d v) ws row) : DaL H (row.map pdD) ws := daL_pd (fun _ _ h => vD.da h) h
end My

end
section
set_option maxHeartbeats 4000000
local macro_rules | `(tactic| walk_at "k") => `(tactic| first
  | assumption
  | exact W.Keep.trans (by assumption) (by assumption)
  | exact And.intro (by grind [W.Keep, W.Kp]) (by grind [W.Keep, W.Kt])
  | grind [W.Keep, W.Kp])
local macro_rules | `(tactic| walk_at "f") => `(tactic| first
  | assumption
  | exact L2.SqL.of (by assumption)
  | exact L2.SqT.of (by assumption)
  | exact L2.SqL.of L2.upd_same
  | exact L2.SqT.of L2.upd_same
  | exact L2.upd_same
  | exact W.carryL (by assumption) (by assumption)
  | exact W.carryL (by assumption) (by walk_at "k")
  | exact W.carryT (by assumption) (by walk_at "k")
  | exact W.carry (by assumption) (by grind [W.Keep, W.Kp])
  | exact L2.SqL.of (W.carry (by assumption) (by grind [W.Keep, W.Kp]))
  | exact L2.SqT.of (W.carry (by assumption) (by grind [W.Keep, W.Kp])))
local macro_rules | `(tactic| walk_at "a") => `(tactic| first
  | assumption
  | rfl)
local macro_rules | `(tactic| walk_at "n") => `(tactic| first
  | assumption
  | exact Nat.zero_le _
  | decide
  | (simp only [List.length_cons, List.length_nil]; decide)
  | omega
  | (simp only [PySem.sizeLine_eq]; omega)
  | (simp only [List.length_map, List.length_append, List.length_cons, List.length_nil, PySem.sizeLine_eq]; omega)
  | (simp only [List.length_map, List.length_append, List.length_cons, List.length_nil, List.length_take, List.length_drop, PySem.sizeLine_eq]; omega)
  | (simp only [List.length_map, List.length_append, List.length_cons, List.length_nil, PySem.sizeLine_eq] at *; omega))
local macro_rules | `(tactic| walk_at "c") => `(tactic| first
  | assumption
  | decide
  | exact And.intro (by decide) (by decide)
  | exact Or.inr (And.intro (by decide) (by decide))
  | exact Or.inl (And.intro (by decide) (by decide))
  | exact And.intro (by decide) (And.intro (by decide) (by decide))
  | exact (show (0 : Int) < _ by decide)
  | exact And.intro (by omega) (by omega)
  | exact Or.inl (And.intro (by omega) (by omega))
  | exact Or.inr (And.intro (by omega) (by omega))
  | exact (show (0 : Int) < _ by omega))
local macro_rules | `(tactic| walk_at "v") => `(tactic| with_reducible first
  | refine W.v0 ?_ | refine W.v1 ?_ | refine W.v2 ?_ | refine W.v3 ?_ | refine W.v4 ?_ | refine W.v5 ?_ | refine W.v6 ?_ | refine W.v7 ?_ | refine W.v8 ?_
  | refine W.v9 ?_ | refine W.v10 ?_ | refine W.v11 ?_ | refine W.v12 ?_ | refine W.v13 ?_ | refine W.v14 ?_ | refine W.v15 ?_ | refine W.v16 ?_ | refine W.v17 ?_
  | refine W.g0 ?_ | refine W.g1 ?_ | refine W.g2 ?_ | refine W.g3 ?_ | refine W.g4 ?_ | refine W.g5 ?_ | refine W.g6 ?_ | refine W.g7 ?_ | refine W.g8 ?_
  | refine W.g9 ?_ | refine W.g10 ?_ | refine W.g11 ?_ | refine W.g12 ?_ | refine W.g13 ?_ | refine W.g14 ?_ | refine W.g15 ?_)
local macro_rules | `(tactic| walk_at "e") => `(tactic| with_reducible first
  | refine W.e_c ?_ | refine W.e_op ?_ | refine W.s_seq ?_ | refine W.s_asg ?_ | refine W.e_CB ?_ | refine W.a_cons ?_ | refine W.a_nil ?_ | refine W.e_call ?_
  | refine W.t_test ?_ | refine W.w_B ?_ | refine W.s_if ?_ | refine W.s_ret ?_ | refine W.s_drop ?_ | refine W.e_un ?_ | refine W.e_fld ?_ | refine W.s_fld ?_
  | refine W.e_meth ?_ | refine W.e_if ?_ | refine W.e_lst ?_ | refine W.e_tup ?_ | refine W.e_sl ?_ | refine W.o_none ?_ | refine W.o_some ?_ | refine W.w_part ?_
  | refine W.e_bm ?_ | refine W.e_bm0 ?_ | refine W.t_B ?_ | refine W.t_and ?_ | refine W.t_or ?_ | refine W.t_not ?_ | refine W.e_andV ?_ | refine W.e_orV ?_ | refine W.e_notV ?_ | refine W.w_BV ?_ | refine W.e_chain ?_
  | refine W.s_aug ?_ | refine W.s_augS ?_ | refine W.s_next ?_ | refine W.s_brk ?_ | refine W.s_cont ?_ | refine W.s_retN ?_ | refine W.s_fa ?_ | refine W.e_make ?_ | refine W.w_make ?_
  | refine W.w_I0 ?_ | refine W.w_U ?_ | refine W.w_aug ?_ | refine W.w_eqI ?_ | refine W.w_neI ?_ | refine W.w_eqS ?_ | refine W.w_neS ?_ | refine W.w_eqB ?_ | refine W.w_neB ?_
  | refine W.w_int ?_ | refine W.w_intB ?_ | refine W.w_min ?_ | refine W.w_max ?_ | refine W.w_isN ?_ | refine W.w_isI ?_ | refine W.w_isS ?_ | refine W.w_isB ?_ | refine W.w_isR ?_
  | refine W.w_notN ?_ | refine W.w_notI ?_ | refine W.w_notR ?_ | refine W.w_notS ?_ | refine W.w_eqNI ?_ | refine W.w_neNI ?_ | refine W.w_eqN ?_ | refine W.w_neN ?_
  | refine W.s_forL ?_ | refine W.s_forT ?_ | refine W.s_forS ?_ | refine W.s_forR1 ?_ | refine W.s_forR2 ?_ | refine W.s_forR3 ?_ | refine W.s_forZ ?_ | refine W.s_forE ?_
  | refine W.e_lcL ?_ | refine W.e_lcT ?_ | refine W.w_ord ?_ | refine W.e_lcR1 ?_ | refine W.e_lcR2 ?_ | refine W.e_lcZ ?_ | refine W.e_lcS ?_ | refine W.t_yes ?_ | refine W.w_gcons ?_ | refine W.w_gnil ?_ | refine W.s_par ?_ | refine W.w_par ?_ | refine W.g_sub ?_ | refine W.e_m1 ?_ | refine W.w_strR ?_ | refine W.w_rAdd ?_ | refine W.w_rSub ?_ | refine W.s_raise ?_ | refine W.s_try ?_ | refine W.e_methS ?_ | refine W.e_callS ?_)
local macro_rules | `(tactic| walk_at "w") => `(tactic| first
  | ((with_reducible refine' W.w_I ?wh ?wq); (case wh => walk_at "c"))
  | ((with_reducible refine' W.w_ixL (n := 0) ?wh ?we ?wq); (case wh => walk_at "f"); (case we => walk_at "a"))
  | ((with_reducible refine' W.w_ixT (n := 0) ?wh ?we ?wq); (case wh => walk_at "f"); (case we => walk_at "a"))
  | ((with_reducible refine' W.w_lenL ?wh ?wq); (case wh => walk_at "f"))
  | ((with_reducible refine' W.w_lenT ?wh ?wq); (case wh => walk_at "f"))
  | ((with_reducible refine' W.w_lenS ?wh ?wq); (case wh => walk_at "n"))
  | ((with_reducible refine' W.w_app ?wh ?we ?wq); (case wh => walk_at "f"); (case we => walk_at "n"))
  | ((with_reducible refine' W.w_meth ?wh ?we ?wq); (case wh => walk_at "f"); (case we => first | assumption | rfl))
  | ((with_reducible refine' W.w_ixLTl ?wh ?we ?wq); (case wh => walk_at "f"); (case we => walk_at "a"))
  | ((with_reducible refine' W.w_ixLTt ?wh ?we ?wq); (case wh => walk_at "f"); (case we => walk_at "a"))
  | ((with_reducible refine' W.w_addS ?wh ?wq); (case wh => walk_at "n"))
  | ((with_reducible refine' W.w_set ?wh ?we ?wq); (case wh => walk_at "f"); (case we => walk_at "a"))
  | ((with_reducible refine' W.w_tup ?wh ?we ?wq); (case wh => walk_at "f"); (case we => first | assumption | rfl))
  | ((with_reducible refine' W.w_slS ?wh ?wq); (case wh => walk_at "n"))
  | ((with_reducible refine' W.w_rApp ?wh ?we ?wq); (case wh => walk_at "f"); (case we => walk_at "n"))
  | ((with_reducible refine' W.w_newL ?wh ?wq); (case wh => walk_at "n"))
  | ((with_reducible refine' W.w_newT ?wh ?wq); (case wh => walk_at "n"))
  | ((with_reducible refine' W.w_listL ?wh ?wq); (case wh => walk_at "f"))
  | ((with_reducible refine' W.w_tupL ?wh ?wq); (case wh => walk_at "f"))
  | ((with_reducible refine' W.w_slL ?wh ?wq); (case wh => walk_at "f"))
  | ((with_reducible refine' W.w_cat ?wh ?wf ?we ?wq); (case wh => walk_at "f"); (case wf => walk_at "f"); (case we => walk_at "n"))
  | ((with_reducible refine' W.w_catT ?wh ?wf ?wx ?wy ?we ?wq); (case wh => walk_at "f"); (case wf => walk_at "f"); (case wx => exact List.cons_ne_nil _ _); (case wy => exact List.cons_ne_nil _ _); (case we => walk_at "n"))
  | ((with_reducible refine' W.w_ext ?wh ?wf ?we ?wq); (case wh => walk_at "f"); (case wf => walk_at "f"); (case we => walk_at "n"))
  | ((with_reducible refine' W.w_recv ?wh ?wq); (case wh => walk_at "f"))
  | ((with_reducible refine' W.w_isi1 ?wh ?we ?wq); (case wh => assumption); (case we => decide +kernel))
  | ((with_reducible refine' W.w_isi0 ?wh ?we ?wq); (case wh => assumption); (case we => decide +kernel))
  | ((with_reducible refine' W.w_isiT10 ?wh ?wf ?we ?wg ?wq); (case wh => assumption); (case wf => walk_at "f"); (case we => decide +kernel); (case wg => decide +kernel))
  | ((with_reducible refine' W.w_isiT01 ?wh ?wf ?we ?wg ?wq); (case wh => assumption); (case wf => walk_at "f"); (case we => decide +kernel); (case wg => decide +kernel))
  | ((with_reducible refine' W.w_isiT00 ?wh ?wf ?we ?wg ?wq); (case wh => assumption); (case wf => walk_at "f"); (case we => decide +kernel); (case wg => decide +kernel))
  | ((with_reducible refine' W.w_ins ?wh ?we ?wf ?wq); (case wh => walk_at "f"); (case we => walk_at "n"); (case wf => walk_at "c"))
  | ((with_reducible refine' W.w_unl ?wh ?we ?wq); (case wh => walk_at "f"); (case we => first | assumption | rfl))
  | ((with_reducible refine' W.ite_T ?_))
  | ((with_reducible refine' W.ite_F ?_))
  | ((with_reducible refine' W.ite_nT ?_))
  | ((with_reducible refine' W.ite_nF ?_))
  | ((with_reducible refine' W.ite_self ?_))
  | ((with_reducible refine' W.ite_nself ?_))
  | ((with_reducible refine' W.ite_tf ?_))
  | ((with_reducible refine' W.ite_ft ?_))
  | ((with_reducible refine' W.ite_ntf ?_))
  | ((with_reducible refine' W.ite_nft ?_))
  | ((with_reducible refine' And.intro ?wl ?wq); (case wl => rfl)))
local macro_rules | `(tactic| walk_at "i") => `(tactic| try (dsimp only [L2.cxOf, L2.wipe, List.map, List.set]))
local macro_rules | `(tactic| walk_at "s") => `(tactic| first | walk_at "v" | walk_at "e" | walk_at "w")
local macro_rules | `(tactic| walk_at "r") => `(tactic| repeat walk_at "s")

namespace My
open PySem L2 W
local macro_rules | `(tactic| walk_at "w") => `(tactic| first
  | ((with_reducible refine' W.w_getF ?wh ?wc ?wn ?wl ?wq); (case wh => walk_at "f"); (case wc => first | exact Env.c_Deeds (by assumption) | exact Env.c_Base (by assumption)); (case wn => first | exact Env.x_Deeds_rows (by assumption) | exact Env.x_Base_commits (by assumption) | exact Env.x_Base_deeds (by assumption)); (case wl => first | exact lkD | exact lkB1 | exact lkB2))
  | ((with_reducible refine' W.w_fa ?wh ?wc ?wn ?wl ?wq); (case wh => walk_at "f"); (case wc => first | exact Env.c_Deeds (by assumption) | exact Env.c_Base (by assumption)); (case wn => first | exact Env.x_Deeds_rows (by assumption) | exact Env.x_Base_commits (by assumption) | exact Env.x_Base_deeds (by assumption)); (case wl => first | exact lkD | exact lkB1 | exact lkB2))
  | ((with_reducible refine' W.w_pf ?wh ?wl ?wq); (case wh => walk_at "f"); (case wl => exact (show 2 < 1000 by decide)))
  | ((with_reducible refine' W.w_setF ?wh ?wc ?wn ?wl ?wq); (case wh => walk_at "f"); (case wc => first | exact Env.c_Deeds (by assumption) | exact Env.c_Base (by assumption)); (case wn => first | exact Env.x_Deeds_rows (by assumption) | exact Env.x_Base_commits (by assumption) | exact Env.x_Base_deeds (by assumption)); (case wl => first | exact (show 0 < 1000 by decide) | exact (show 1 < 1000 by decide) | exact (show 2 < 1000 by decide) | exact Nat.lt_of_le_of_lt (length_putF _ _ _) (show 1 < 1000 by decide))))
variable {P : Program} {w : World} {K : PySem.W.Frag} {mg : Str → Option Value} {base : Heap} {A : Adr}
theorem RowsN.keepI {H0 H H' : Hp} {rs r C dx : Addr} {fs : List (Str × V)} {rows : Rws} (h : RowsN H0 H rs rows) (hr : H r = some (.ins C dx fs)) (k : Keep [r] H H') : RowsN H0 H' rs rows := by
  obtain ⟨ts, h1, h2, h3, h4⟩ := h
  have n : ∀ t us, H t = some (.lst us) → t ∉ [r] := fun t us ht z => by
    rw [List.mem_singleton] at z; subst z; rw [hr] at ht; cases ht
  exact ⟨ts, k.get h1 (n _ _ h1), h2, Paired.mapP h3 fun _ _ h => h.mono k (n _ _ h.choose_spec.1), h4⟩
theorem DeN.keepI {H0 H H' : Hp} {C d r D dx : Addr} {fs : List (Str × V)} {rows : Rws} (h : DeN H0 C H d rows) (hr : H r = some (.ins D dx fs)) (k : Keep [r] H H') (n : d ≠ r) : DeN H0 C H' d rows := by
  obtain ⟨dx, rs, h1, h2, h3⟩ := h
  exact ⟨dx, rs, k.get h1 (by simp [n]), h2.keepI hr k, h3⟩
abbrev De (C : Addr) (H : Hp) (d : Addr) (rows : Rws) : Prop := DeN (fun _ => none) C H d rows
def sp_Dinit (A : Adr) : Sp := fun vs H Q _ => ∃ (r dx : Addr), vs = [.ref r] ∧ H r = some (.ins A.C_Deeds dx []) ∧
  ∀ rs H', Keep [r] H H' → H' r = some (.ins A.C_Deeds dx (deF rs)) → RowsN H H' rs (List.replicate 8 []) → Q .non H'
theorem ok_Deeds___init__ (e : Env K mg A) : FnOk P w K mg base CX0 1 A.f_Deeds___init__ A.d_Deeds___init__ ["self"] (sp_Dinit A) := by
  refine e.F_Deeds___init__.ok sc_Deeds___init__ (fun vs H Q E h => ?_) (fun cdv AA outer s H vs Q E hr h => ?_)
  · obtain ⟨r, dx, rfl, _⟩ := h
    rfl
  · obtain ⟨r, dx, rfl, hr0, q⟩ := h
    refine ⟨_, (pss_one (ps_fldK (K := K) (pv 0) (pe_lc (own := [("_", 1)]) (by rfl) sc_Deeds___init__.nd (pi_range1 rfl e.n_range (pa_cons (pe_glob (by rfl) e.m_REPLICAS e.r_REPLICAS) pa_nil)) (blkOk_by (own := [("_", 1)]) (N := nm_Deeds___init__) (sc := defScope s_Deeds___init__) (by decide +kernel)) (fun _ _ _ _ _ => (pg_name (i := 1) sc_Deeds___init__.nd rfl (Or.inl rfl))) (fun _ _ _ _ _ => pts_nil) (fun _ _ _ _ _ => (pe_lst pa_nil))) rfl)), ?_⟩
    refine enter (st_Deeds___init__ _) ?_
    walk_at "i"
    walk_at "r"
    refine lcR1 (by omega) (by omega) (fun D i H' => Keep [] H H' ∧ RowsN H H' D (List.replicate i [])) (fun D H2 nD k2 hD => ⟨k2, RowsN.start nD hD⟩) ?_ ?_
    · rintro D i H2 nD hi ⟨k2, hR⟩
      obtain ⟨us, hD⟩ : ∃ us, H2 D = some (.lst us) := by obtain ⟨ts, h, _⟩ := hR; exact ⟨_, h⟩
      have hul := hR.len hD
      rw [List.length_replicate] at hul
      walk_at "i"
      walk_at "r"
      intro l H3 nl k3 h3
      walk_at "r"
      intro H4 k4 h4
      refine ⟨(k2.trans k3).mut nD k4, ?_⟩
      rw [List.replicate_succ']
      exact RowsN.push hR k2 hD nl k3 ⟨[], h3, .nil⟩ k4 h4
    · rintro D H2 nD ⟨k2, hR⟩
      walk_at "r"
      intro H3 k3 h3
      rw [pfD0] at h3
      have hr2 := k2.get hr0 (by simp)
      walk_at "r"
      exact q D H3 (k2.any.trans k3) h3 (hR.keepI hr2 k3)
def sp_counts (A : Adr) : Sp := fun vs H Q _ => ∃ (d : Addr) (rows : Rws), vs = [.ref d] ∧ De A.C_Deeds H d rows ∧ rows.length = 8 ∧ ∀ p H', H p = none → Keep [] H H' → H' p = some (.lst (rows.map fun r => V.int (r.length : Int))) → Q (.ref p) H'
theorem ok_Deeds_counts (e : Env K mg A) : FnOk P w K mg base CX0 1 A.f_Deeds_counts A.d_Deeds_counts ["self"] (sp_counts A) := by
  refine e.F_Deeds_counts.ok sc_Deeds_counts (fun vs H Q E h => ?_) (fun cdv AA outer s H vs Q E hr h => ?_)
  · obtain ⟨d, rows, rfl, _⟩ := h
    rfl
  · obtain ⟨d, rows, rfl, ⟨dx, rs, hd, ⟨ts, h1, h2, h3, h4⟩, _⟩, h8, q⟩ := h
    have htl := Paired.length h3
    refine ⟨_, (pss_one (ps_ret (pe_lc (own := [("row", 1)]) (by rfl) sc_Deeds_counts.nd (pi_listK (K := K) (pe_fldK (K := K) (pv 0) rfl)) (blkOk_by (own := [("row", 1)]) (N := nm_Deeds_counts) (sc := defScope s_Deeds_counts) (by decide +kernel)) (fun _ _ _ _ _ => (pg_name (i := 1) sc_Deeds_counts.nd rfl (Or.inl rfl))) (fun _ _ _ _ _ => pts_nil) (fun _ _ _ _ _ => (pe_callB (call_lenLK (K := K)) (by rfl) e.n_len (by decide +kernel) (pa_cons (pv 1) pa_nil)))))), ?_⟩
    refine enter (st_Deeds_counts _) ?_
    walk_at "i"
    walk_at "r"
    refine lcL (SqL.of h1) (fun D i H' => Keep [] H H' ∧ H' D = some (.lst ((rows.take i).map fun r => V.int (r.length : Int)))) (fun D H2 nD k2 hD => ⟨k2, hD⟩) (fun D i H' _ h => SqL.of (h.1.get h1 (by simp))) ?_ ?_
    · rintro D i x H2 nD hx ⟨k2, hD⟩
      rw [List.getElem?_map, Option.map_eq_some_iff] at hx
      obtain ⟨t, ht, rfl⟩ := hx
      obtain ⟨row, hrow, ws, hws, hp⟩ := pd_get h3 ht
      have hws2 := k2.get hws (by simp)
      have hil := (List.getElem?_eq_some_iff.mp ht).1
      walk_at "i"
      walk_at "r"
      intro H3 k3 h3'
      refine ⟨k2.mut nD k3, ?_⟩
      rw [h3', List.take_add_one, hrow, Paired.length hp]
      simp
    · rintro D H2 nD ⟨k2, hD⟩
      rw [List.length_map, htl, List.take_length] at hD
      exact q D H2 nD k2 hD
def sp_Dcopy (A : Adr) : Sp := fun vs H Q _ => ∃ (d : Addr) (rows : Rws), vs = [.ref d] ∧ De A.C_Deeds H d rows ∧ rows.length = 8 ∧ ∀ d' H', Keep [] H H' → DeN H A.C_Deeds H' d' rows → Q (.ref d') H'
theorem ok_Deeds_copy (e : Env K mg A) : FnOk P w K mg base CX0 3 A.f_Deeds_copy A.d_Deeds_copy ["self"] (sp_Dcopy A) := by
  have G_Deeds___init__ := ok_Deeds___init__ (P := P) (w := w) (base := base) e
  refine e.F_Deeds_copy.ok sc_Deeds_copy (fun vs H Q E h => ?_) (fun cdv AA outer s H vs Q E hr h => ?_)
  · obtain ⟨d, rows, rfl, _⟩ := h
    rfl
  · obtain ⟨d, rows, rfl, ⟨dx, rs, hd, ⟨ts, h1, h2, h3, h4⟩, _⟩, h8, q⟩ := h
    have htl := Paired.length h3
    refine ⟨_, (pss_cons (ps_set (i := 1) sc_Deeds_copy.nd rfl (Or.inl rfl) (pe_make0 e.M_Deeds G_Deeds___init__ (hr.mono (by omega)) (by rfl) e.m_Deeds e.b_Deeds___init__ .nil pass0))
    (pss_cons (ps_fldK (K := K) (pv 1) (pe_lc (own := [("row", 2)]) (by rfl) sc_Deeds_copy.nd (pi_listK (K := K) (pe_fldK (K := K) (pv 0) rfl)) (blkOk_by (own := [("row", 2)]) (N := nm_Deeds_copy) (sc := defScope s_Deeds_copy) (by decide +kernel)) (fun _ _ _ _ _ => (pg_name (i := 2) sc_Deeds_copy.nd rfl (Or.inl rfl))) (fun _ _ _ _ _ => pts_nil) (fun _ _ _ _ _ => (pe_callTy (call_listLK (K := K)) (by rfl) e.n_list (by decide +kernel) (pa_cons (pv 2) pa_nil)))) rfl)
    (pss_one (ps_ret (pv 1))))), ?_⟩
    refine enter (st_Deeds_copy _) ?_
    walk_at "i"
    walk_at "r"
    intro x dx2 H1 nx k1 hx1
    refine ⟨x, dx2, rfl, hx1, fun rs0 H2 k2 hx2 _ => ⟨rfl, ?_⟩⟩
    have k12 : Keep [] H H2 := k1.mut nx k2
    have hd2 := k12.get hd (by simp)
    have h12 := k12.get h1 (by simp)
    clear k1 k2 hx1
    walk_at "r"
    refine lcL (SqL.of h12) (fun D i H' => Keep [] H2 H' ∧ RowsN H2 H' D (rows.take i)) (fun D H3 nD k3 hD => ⟨k3, by rw [List.take_zero]; exact RowsN.start nD hD⟩) (fun D i H' _ h => SqL.of (h.1.get h12 (by simp))) ?_ ?_
    · rintro D i y H3 nD hy ⟨k3, hR⟩
      rw [List.getElem?_map, Option.map_eq_some_iff] at hy
      obtain ⟨t, ht, rfl⟩ := hy
      obtain ⟨row, hrow, ws, hws, hp⟩ := pd_get h3 ht
      have hws3 := (k12.trans k3).get hws (by simp)
      have hil := (List.getElem?_eq_some_iff.mp ht).1
      obtain ⟨us, hD⟩ : ∃ us, H3 D = some (.lst us) := by obtain ⟨ts, h, _⟩ := hR; exact ⟨_, h⟩
      have hul := hR.len hD
      rw [List.length_take] at hul
      walk_at "i"
      walk_at "r"
      intro l H4 nl k4 h4'
      walk_at "r"
      intro H5 k5 h5
      refine ⟨(k3.trans k4).mut nD k5, ?_⟩
      rw [List.take_add_one, hrow]
      exact RowsN.push hR k3 hD nl k4 ⟨ws, h4', Paired.mapP hp fun _ _ h => vD.keep h (k12.trans (k3.trans k4))⟩ k5 h5
    · rintro D H3 nD ⟨k3, hR⟩
      rw [List.length_map, htl, List.take_length] at hR
      have hx3 := k3.get hx2 (by simp)
      walk_at "r"
      intro H4 k4 h4'
      rw [pfD] at h4'
      walk_at "r"
      exact q x H4 ((k12.trans k3).mut nx k4) ⟨dx2, D, h4', (hR.keepI hx3 k4).back k12, nx⟩
def sp_add (A : Adr) : Sp := fun vs H Q _ => ∃ (d : Addr) (i : Nat) (v : V) (dd : Dd) (rows : Rws) (H0 : Hp), vs = [.ref d, .int (i : Int), v] ∧ DeN H0 A.C_Deeds H d rows ∧ rows.length = 8 ∧ i < 8 ∧ (rows.getD i []).length ≤ 1000000 ∧ vD H dd v ∧
  ∀ t us H', H t = some (.lst us) → H0 t = none → Keep [t] H H' → DeN H0 A.C_Deeds H' d (rows.set i (rows.getD i [] ++ [dd])) → Q .non H'
theorem ok_Deeds_add (e : Env K mg A) : FnOk P w K mg base CX0 1 A.f_Deeds_add A.d_Deeds_add ["self", "replica", "deed"] (sp_add A) := by
  refine e.F_Deeds_add.ok sc_Deeds_add (fun vs H Q E h => ?_) (fun cdv AA outer s H vs Q E hr h => ?_)
  · obtain ⟨d, i, v, dd, rows, H0, rfl, _⟩ := h
    rfl
  · obtain ⟨d, i, v, dd, rows, H0, rfl, ⟨dx, rs, hd, ⟨ts, h1, h2, h3, h4⟩, hd0⟩, h8, hi, hrl, hv, q⟩ := h
    have htl := Paired.length h3
    obtain ⟨t, ht⟩ : ∃ t, ts[i]? = some t := ⟨_, List.getElem?_eq_getElem (by omega)⟩
    obtain ⟨row, hrow, ws, hws, hp⟩ := pd_get h3 ht
    have hat : atI (ts.map V.ref) (i : Int) = some (.ref t) := atI_nat (by rw [List.getElem?_map, ht]; rfl)
    have hgd : rows.getD i [] = row := by rw [List.getD_eq_getElem?_getD, hrow]; rfl
    rw [hgd] at hrl q
    have hwl := Paired.length hp
    refine ⟨_, (pss_one (ps_expr (pe_bmK (K := K) PySem.F.plainAttrs_list PySem.F.slot_list_append PySem.F.type_list_append mt_append (pe_ix (ix_listK (K := K)) (pe_fldK (K := K) (pv 0) rfl) (pv 1) (fun _ _ => rfl)) (pa_cons (pv 2) pa_nil)))), ?_⟩
    refine enter (st_Deeds_add _ _ _) ?_
    walk_at "i"
    walk_at "r"
    intro H2 k2 hg
    walk_at "r"
    have hdt : d ≠ t := fun z => by subst z; rw [hd] at hws; cases hws
    exact q t ws H2 hws (h4 t (List.mem_cons_of_mem _ (List.mem_of_getElem? ht))) k2 ⟨dx, rs, k2.get hd (by simp [hdt]), RowsN.grow h1 h2 h3 h4 ht hrow hws hv k2 hg, hd0⟩
/-! bases -/
def BaN (H0 : Hp) (A : Adr) (H : Hp) (b : Addr) (bs : Bs) : Prop := ∃ dx d, H b = some (.ins A.C_Base dx (baF bs.1 d)) ∧ DeN H0 A.C_Deeds H d bs.2 ∧ H0 b = none ∧ d ≠ b
abbrev Ba (A : Adr) (H : Hp) (b : Addr) (bs : Bs) : Prop := BaN (fun _ => none) A H b bs
theorem BaN.mono {H0 H H' : Hp} {A : Adr} {b : Addr} {bs : Bs} (h : BaN H0 A H b bs) (k : Keep [] H H') : BaN H0 A H' b bs := by
  obtain ⟨dx, d, h1, h2, h3, h4⟩ := h
  exact ⟨dx, d, k.get h1 (by simp), h2.mono k, h3, h4⟩
theorem BaN.any {H0 H : Hp} {A : Adr} {b : Addr} {bs : Bs} (h : BaN H0 A H b bs) : Ba A H b bs := by
  obtain ⟨dx, d, h1, h2, h3, h4⟩ := h
  exact ⟨dx, d, h1, h2.any, rfl, h4⟩
theorem BaN.back {G H0 H : Hp} {A : Adr} {b : Addr} {bs : Bs} (h : BaN H0 A H b bs) (k : Keep [] G H0) : BaN G A H b bs := by
  obtain ⟨dx, d, h1, h2, h3, h4⟩ := h
  exact ⟨dx, d, h1, h2.back k, k.free h3 (by simp), h4⟩
def sp_Binit (A : Adr) : Sp := fun vs H Q _ => ∃ (r dx : Addr), vs = [.ref r] ∧ H r = some (.ins A.C_Base dx []) ∧
  ∀ d H', Keep [r] H H' → H' r = some (.ins A.C_Base dx (baF 0 d)) → DeN H A.C_Deeds H' d (List.replicate 8 []) → Q .non H'
theorem ok_Base___init__ (e : Env K mg A) : FnOk P w K mg base CX0 3 A.f_Base___init__ A.d_Base___init__ ["self"] (sp_Binit A) := by
  have G_Deeds___init__ := ok_Deeds___init__ (P := P) (w := w) (base := base) e
  refine e.F_Base___init__.ok sc_Base___init__ (fun vs H Q E h => ?_) (fun cdv AA outer s H vs Q E hr h => ?_)
  · obtain ⟨r, dx, rfl, _⟩ := h
    rfl
  · obtain ⟨r, dx, rfl, hr0, q⟩ := h
    refine ⟨_, (pss_cons (ps_fldK (K := K) (pv 0) pe_int rfl)
    (pss_one (ps_fldK (K := K) (pv 0) (pe_make0 e.M_Deeds G_Deeds___init__ (hr.mono (by omega)) (by rfl) e.m_Deeds e.b_Deeds___init__ .nil pass0) rfl))), ?_⟩
    refine enter (st_Base___init__ _) ?_
    walk_at "i"
    walk_at "r"
    intro H1 k1 h1
    walk_at "r"
    intro x dx2 H2 nx k2 hx2
    refine ⟨x, dx2, rfl, hx2, fun rs H3 k3 hx3 hR => ⟨rfl, ?_⟩⟩
    have k23 : Keep [] H1 H3 := k2.mut nx k3
    have h3 := k23.get h1 (by simp)
    have nxr : x ≠ r := Ne.symm (ne_of_none h1 nx)
    have nx0 : H x = none := k1.free nx (by simp [nxr])
    walk_at "r"
    intro H4 k4 h4
    rw [pfB0] at h4
    walk_at "r"
    refine q x H4 (k1.trans (k23.any.trans k4)) h4 ⟨dx2, rs, k4.get hx3 (by simp [nxr]), ?_, nx0⟩
    have hR4 := (hR.keepI h3 k4).back k2
    obtain ⟨ts, g1, g2, g3, g4⟩ := hR4
    refine ⟨ts, g1, g2, g3, fun t ht => k1.free (g4 t ht) fun z => ?_⟩
    rw [List.mem_singleton] at z
    subst z
    have := g4 t ht
    rw [h1] at this
    cases this
def sp_Bcopy (A : Adr) : Sp := fun vs H Q _ => ∃ (b : Addr) (bs : Bs), vs = [.ref b] ∧ Ba A H b bs ∧ bs.2.length = 8 ∧ ∀ c H', Keep [] H H' → BaN H A H' c bs → Q (.ref c) H'
theorem ok_Base_copy (e : Env K mg A) : FnOk P w K mg base CX0 5 A.f_Base_copy A.d_Base_copy ["self"] (sp_Bcopy A) := by
  have G_Base___init__ := ok_Base___init__ (P := P) (w := w) (base := base) e
  have G_Deeds_copy := ok_Deeds_copy (P := P) (w := w) (base := base) e
  refine e.F_Base_copy.ok sc_Base_copy (fun vs H Q E h => ?_) (fun cdv AA outer s H vs Q E hr h => ?_)
  · obtain ⟨b, bs, rfl, _⟩ := h
    rfl
  · obtain ⟨b, bs, rfl, hB, h8, q⟩ := h
    refine ⟨_, (pss_cons (ps_set (i := 1) sc_Base_copy.nd rfl (Or.inl rfl) (pe_make0 e.M_Base G_Base___init__ (hr.mono (by omega)) (by rfl) e.m_Base e.b_Base___init__ .nil pass0))
    (pss_cons (ps_fldK (K := K) (pv 1) (pe_fldK (K := K) (pv 0) rfl) rfl)
    (pss_cons (ps_fldK (K := K) (pv 1) (pe_meth0 (pe_fldK (K := K) (pv 0) rfl) e.c_Deeds e.h_Deeds_copy G_Deeds_copy (hr.mono (by omega)) e.b_Deeds_copy .nil pass0) rfl)
    (pss_one (ps_ret (pv 1)))))), ?_⟩
    refine enter (st_Base_copy _) ?_
    walk_at "i"
    walk_at "r"
    intro x dx2 H1 nx k1 hx1
    refine ⟨x, dx2, rfl, hx1, fun d0 H2 k2 hx2 _ => ⟨rfl, ?_⟩⟩
    have k12 : Keep [] H H2 := k1.mut nx k2
    obtain ⟨dx, d, hb, hd, _, hdb⟩ := hB
    have nbx : b ≠ x := ne_of_none hb nx
    have ndx : d ≠ x := by obtain ⟨_, _, h, _⟩ := hd; exact ne_of_none h nx
    have hb2 := k12.get hb (by simp)
    have hd2 := hd.mono k12
    clear k1 k2 hx1
    walk_at "r"
    intro H3 k3 hx3
    rw [pfB1] at hx3
    have hb3 := k3.get hb2 (by simp [nbx])
    have hd3 := hd2.keepI hx2 k3 ndx
    have hd3' := hd3
    obtain ⟨dx3, rs3, hd4, _⟩ := hd3'
    have hlk : (deF rs3).lookup ("copy" : Str) = none := lkDn (by decide +kernel)
    walk_at "r"
    refine ⟨d, bs.2, rfl, hd3, h8, fun d' H4 k4 hd' => ?_⟩
    have hx4 := k4.get hx3 (by simp)
    have nd' : d' ≠ x := by obtain ⟨_, _, _, _, h⟩ := hd'; exact Ne.symm (ne_of_none hx3 h)
    walk_at "r"
    intro H5 k5 hx5
    rw [pfB2] at hx5
    walk_at "r"
    have k3' : Keep [] H H3 := k12.mut nx k3
    exact q x H5 ((k3'.trans k4).mut nx k5) ⟨dx2, d', hx5, (hd'.keepI hx4 k5 nd').back k3', nx, nd'⟩
def sp_grown (A : Adr) : Sp := fun vs H Q _ => ∃ (b a : Addr) (bs : Bs) (us : List V) (ts : List Tri) (rows : Rws), vs = [.ref b, .ref a] ∧ Ba A H b bs ∧ bs.2.length = 8 ∧ H a = some (.lst us) ∧ vTs H ts us ∧ nxs bs.2 ts = some rows ∧ (∀ row ∈ rows, row.length ≤ 1000000) ∧
  ∀ c H', Keep [] H H' → BaN H A H' c (bs.1 + 1, rows) → Q (.ref c) H'
theorem nxs_grow {ts : List Tri} : ∀ {rows r : Rws}, nxs rows ts = some r → ∀ i, (rows.getD i []).length ≤ (r.getD i []).length := by
  induction ts with
  | nil => intro rows r h i; cases h; exact Nat.le_refl _
  | cons t ts ih =>
    intro rows r h i
    have h : (nx1 rows t).bind (fun r => nxs r ts) = some r := h
    cases hn : nx1 rows t with
    | none => rw [hn] at h; cases h
    | some z =>
      rw [hn] at h
      have h1 := ih (rows := z) h i
      refine Nat.le_trans ?_ h1
      unfold nx1 at hn
      split at hn
      · cases hn
        by_cases e : i = t.r
        · subst e
          by_cases hl : t.r < rows.length
          · rw [List.getD_eq_getElem?_getD, List.getD_eq_getElem?_getD, List.getElem?_set_self hl]
            simp
          · rw [List.set_eq_of_length_le (by omega)]; exact Nat.le_refl _
        · rw [List.getD_eq_getElem?_getD, List.getD_eq_getElem?_getD, List.getElem?_set_ne (Ne.symm e)]; exact Nat.le_refl _
      · cases hn
theorem ok_Base_grown (e : Env K mg A) : FnOk P w K mg base CX0 6 A.f_Base_grown A.d_Base_grown ["self", "triples"] (sp_grown A) := by
  have G_Base_copy := ok_Base_copy (P := P) (w := w) (base := base) e
  have G_Deeds_add := ok_Deeds_add (P := P) (w := w) (base := base) e
  refine e.F_Base_grown.ok sc_Base_grown (fun vs H Q E h => ?_) (fun cdv AA outer s H vs Q E hr h => ?_)
  · obtain ⟨b, a, bs, us, ts, rows, rfl, _⟩ := h
    rfl
  · obtain ⟨b, a, bs, us, ts, rows, rfl, hB, h8, ha, hT, hnx, hrl, q⟩ := h
    have hul : us.length = ts.length := Paired.length hT
    refine ⟨_, (pss_cons (ps_set (i := 2) sc_Base_grown.nd rfl (Or.inl rfl) (pe_meth0 (pv 0) e.c_Base e.h_Base_copy G_Base_copy (hr.mono (by omega)) e.b_Base_copy .nil pass0))
    (pss_cons (ps_for PassesOwn.never rfl (pi_listK (K := K) (pv 1)) (pg_tupK (K := K) (n := 3) rfl (pgs_cons (pg_name (i := 3) sc_Base_grown.nd rfl (Or.inl rfl)) (pgs_cons (pg_name (i := 4) sc_Base_grown.nd rfl (Or.inl rfl)) (pgs_cons (pg_name (i := 5) sc_Base_grown.nd rfl (Or.inl rfl)) pgs_nil)))) (pss_one (ps_expr (pe_meth (pe_fldK (K := K) (pv 2) rfl) e.c_Deeds e.h_Deeds_add G_Deeds_add (hr.mono (by omega)) e.b_Deeds_add .nil pass0 (pa_cons (pv 3) (pa_cons (pv 5) pa_nil))))))
    (pss_cons (ps_fldaugK (K := K) (pv 2) pe_int in_add)
    (pss_one (ps_ret (pv 2)))))), ?_⟩
    refine enter (st_Base_grown _ _) ?_
    walk_at "i"
    obtain ⟨dx, d, hb, _⟩ := hB
    have hlk : (baF bs.1 d).lookup ("copy" : Str) = none := lkBn (by decide +kernel) (by decide +kernel)
    walk_at "r"
    refine ⟨b, bs, rfl, ⟨dx, d, hb, by assumption⟩, h8, fun c H1 k1 hc => ?_⟩
    obtain ⟨dx1, d1, hc1, hd1, nc, ndc⟩ := hc
    walk_at "r"
    refine forL (SqL.of (k1.get ha (by simp))) (fun i σ H' => ∃ v3 v4 v5 r, σ = [some (.ref b), some (.ref a), some (.ref c), v3, v4, v5] ∧ Keep [] H H' ∧ H' c = some (.ins A.C_Base dx1 (baF bs.1 d1)) ∧ DeN H A.C_Deeds H' d1 r ∧ nxs bs.2 (ts.take i) = some r)
      ⟨_, _, _, bs.2, rfl, k1, hc1, hd1, rfl⟩ (fun i σ H' _ h => ?_) ?_ ?_
    · obtain ⟨_, _, _, _, _, k, _⟩ := h
      exact SqL.of (k.get ha (by simp))
    · rintro i x σ H2 hx ⟨v3, v4, v5, r, rfl, k2, hc2, hd2, hr2⟩
      obtain ⟨tt, htt, tb, bv, rfl, htb, hdd⟩ := pd_get hT hx
      have htb2 := k2.get htb (by simp)
      have hdd2 := vD.keep hdd k2
      have hst := nxs_step hr2 htt
      have hr8 : r.length = 8 := by rw [nxs_len hr2, h8]
      have hnx1 : nx1 r tt ≠ none := fun z => by
        have := nxs_none (rows := bs.2) (ts := ts) (i := i + 1) (by rw [hst, z])
        rw [hnx] at this; cases this
      have hcond : tt.r < 8 ∧ tt.p = (r.getD tt.r []).length + 1 := by
        by_cases z : tt.r < 8 ∧ tt.p = (r.getD tt.r []).length + 1
        · exact z
        · exact absurd (by unfold nx1; rw [if_neg z]) hnx1
      have hst2 : nxs bs.2 (ts.take (i + 1)) = some (r.set tt.r (r.getD tt.r [] ++ [tt.d])) := by rw [hst]; unfold nx1; rw [if_pos hcond]
      have hlen : (r.getD tt.r []).length ≤ 1000000 := by
        have e : nxs r (ts.drop i) = some rows := by
          have := nxs_app bs.2 (ts.take i) (ts.drop i)
          rw [List.take_append_drop, hr2, hnx] at this
          exact this.symm
        have h1 := nxs_grow e tt.r
        have h2 : rows.length = 8 := by rw [nxs_len hnx, h8]
        have h3 : rows.getD tt.r [] ∈ rows := by
          rw [List.getD_eq_getElem?_getD, List.getElem?_eq_getElem (by omega)]
          exact List.getElem_mem _
        exact Nat.le_trans h1 (hrl _ h3)
      have hd2' := hd2
      obtain ⟨dx2, rs2, hd2'', _⟩ := hd2'
      have hlk : (deF rs2).lookup ("add" : Str) = none := lkDn (by decide +kernel)
      walk_at "r"
      refine ⟨d1, tt.r, bv, tt.d, r, H, rfl, hd2, hr8, hcond.1, hlen, hdd2, fun t us2 H3 ht nt k3 hd3 => ?_⟩
      walk_at "r"
      have nct : c ≠ t := fun z => by subst z; rw [hc2] at ht; cases ht
      exact ⟨_, _, _, _, rfl, k2.mut nt k3, k3.get hc2 (by simp [nct]), hd3, hst2⟩
    · rintro σ H2 ⟨v3, v4, v5, r, rfl, k2, hc2, hd2, hr2⟩
      rw [hul, List.take_length, hnx] at hr2
      cases hr2
      walk_at "r"
      intro H3 k3 h3
      rw [show (bs.1 : Int) + 1 = ((bs.1 + 1 : Nat) : Int) by omega, pfB1] at h3
      walk_at "r"
      exact q c H3 (k2.mut nc k3) ⟨dx1, d1, h3, hd2.keepI hc2 k3 ndc, nc, ndc⟩
/-- a row as a tuple -/
def vRow (H : Hp) (row : List Dd) (v : V) : Prop := ∃ t ws, v = .ref t ∧ H t = some (.tup ws) ∧ Paired (fun v d => vD H d v) ws row
theorem vRow.keep {S : List Addr} {H H' : Hp} {row : List Dd} {v : V} (h : vRow H row v) (k : Keep S H H') : vRow H' row v := by
  obtain ⟨t, ws, e, h1, h2⟩ := h
  exact ⟨t, ws, e, k.2 _ _ h1, Paired.mapP h2 fun _ _ h => vD.keep h k⟩
theorem vRow.da {H : Hp} {row : List Dd} {v : V} (h : vRow H row v) : Da H (pdRow row) v := by
  obtain ⟨t, ws, rfl, h1, h2⟩ := h
  exact Da.tup h1 (pairs_da h2)
def pdBs (bs : Bs) : PyData := .tuple [.int (bs.1 : Int), .tuple (bs.2.map pdRow)]
def sp_data (A : Adr) : Sp := fun vs H Q _ => ∃ (b : Addr) (bs : Bs), vs = [.ref b] ∧ Ba A H b bs ∧ bs.2.length = 8 ∧ ∀ v H', Keep [] H H' → Da H' (pdBs bs) v → Q v H'
theorem ok_Base_data (e : Env K mg A) : FnOk P w K mg base CX0 1 A.f_Base_data A.d_Base_data ["self"] (sp_data A) := by
  refine e.F_Base_data.ok sc_Base_data (fun vs H Q E h => ?_) (fun cdv AA outer s H vs Q E hr h => ?_)
  · obtain ⟨b, bs, rfl, _⟩ := h
    rfl
  · obtain ⟨b, bs, rfl, ⟨dx, d, hb, ⟨dxd, rs, hd, ⟨ts, h1, h2, h3, h4⟩, _⟩, _⟩, h8, q⟩ := h
    have htl := Paired.length h3
    refine ⟨_, (pss_one (ps_ret (pe_tup (pa_cons (pe_fldK (K := K) (pv 0) rfl) (pa_cons (pe_callTy (call_tupleLK (K := K)) (by rfl) e.n_tuple (by decide +kernel) (pa_cons (pe_lc (own := [("row", 1)]) (by rfl) sc_Base_data.nd (pi_listK (K := K) (pe_fldK (K := K) (pe_fldK (K := K) (pv 0) rfl) rfl)) (blkOk_by (own := [("row", 1)]) (N := nm_Base_data) (sc := defScope s_Base_data) (by decide +kernel)) (fun _ _ _ _ _ => (pg_name (i := 1) sc_Base_data.nd rfl (Or.inl rfl))) (fun _ _ _ _ _ => pts_nil) (fun _ _ _ _ _ => (pe_callTy (call_tupleLK (K := K)) (by rfl) e.n_tuple (by decide +kernel) (pa_cons (pv 1) pa_nil)))) pa_nil)) pa_nil))))), ?_⟩
    refine enter (st_Base_data _) ?_
    walk_at "i"
    walk_at "r"
    refine lcL (SqL.of h1) (fun D i H' => Keep [] H H' ∧ ∃ us, H' D = some (.lst us) ∧ Paired (fun v row => vRow H' row v) us (bs.2.take i)) (fun D H2 nD k2 hD => ⟨k2, [], hD, by rw [List.take_zero]; exact .nil⟩) (fun D i H' _ h => SqL.of (h.1.get h1 (by simp))) ?_ ?_
    · rintro D i x H2 nD hx ⟨k2, us, hD, hda⟩
      rw [List.getElem?_map, Option.map_eq_some_iff] at hx
      obtain ⟨t, ht, rfl⟩ := hx
      obtain ⟨row, hrow, ws, hws, hp⟩ := pd_get h3 ht
      have hws2 := k2.get hws (by simp)
      have hil := (List.getElem?_eq_some_iff.mp ht).1
      have hul := Paired.length hda
      rw [List.length_take] at hul
      walk_at "i"
      walk_at "r"
      intro tt H3 nt k3 ht3
      have hD3 := k3.get hD (by simp)
      walk_at "r"
      intro H4 k4 h4'
      have k24 := k2.trans k3
      refine ⟨k24.mut nD k4, us ++ [.ref tt], h4', ?_⟩
      rw [List.take_add_one, hrow]
      exact Paired.snoc (Paired.mapP hda fun _ _ h => (h.keep k3).keep k4) (vRow.keep ⟨tt, ws, rfl, ht3, Paired.mapP hp fun _ _ h => vD.keep h k24⟩ k4)
    · rintro D H2 nD ⟨k2, us, hD, hda⟩
      rw [List.length_map, htl, List.take_length] at hda
      walk_at "r"
      intro t2 H3 n3 k3 ht2
      walk_at "r"
      intro t3 H4 n4 k4 ht3
      exact q _ H4 (k2.trans (k3.trans k4)) (Da.tup ht3 (DaL.cons Da.int (DaL.one (Da.tup (k4.get ht2 (by simp)) (daL_pd (f := pdRow) (Val := fun row v => vRow H2 row v) (fun _ _ h => (vRow.keep h (k3.trans k4)).da) hda)))))
end My

end
section
set_option maxHeartbeats 4000000
local macro_rules | `(tactic| walk_at "k") => `(tactic| first
  | assumption
  | exact W.Keep.trans (by assumption) (by assumption)
  | exact And.intro (by grind [W.Keep, W.Kp]) (by grind [W.Keep, W.Kt])
  | grind [W.Keep, W.Kp])
local macro_rules | `(tactic| walk_at "f") => `(tactic| first
  | assumption
  | exact L2.SqL.of (by assumption)
  | exact L2.SqT.of (by assumption)
  | exact L2.SqL.of L2.upd_same
  | exact L2.SqT.of L2.upd_same
  | exact L2.upd_same
  | exact W.carryL (by assumption) (by assumption)
  | exact W.carryL (by assumption) (by walk_at "k")
  | exact W.carryT (by assumption) (by walk_at "k")
  | exact W.carry (by assumption) (by grind [W.Keep, W.Kp])
  | exact L2.SqL.of (W.carry (by assumption) (by grind [W.Keep, W.Kp]))
  | exact L2.SqT.of (W.carry (by assumption) (by grind [W.Keep, W.Kp])))
local macro_rules | `(tactic| walk_at "a") => `(tactic| first
  | assumption
  | rfl)
local macro_rules | `(tactic| walk_at "n") => `(tactic| first
  | assumption
  | exact Nat.zero_le _
  | decide
  | (simp only [List.length_cons, List.length_nil]; decide)
  | omega
  | (simp only [PySem.sizeLine_eq]; omega)
  | (simp only [List.length_map, List.length_append, List.length_cons, List.length_nil, PySem.sizeLine_eq]; omega)
  | (simp only [List.length_map, List.length_append, List.length_cons, List.length_nil, List.length_take, List.length_drop, PySem.sizeLine_eq]; omega)
  | (simp only [List.length_map, List.length_append, List.length_cons, List.length_nil, PySem.sizeLine_eq] at *; omega))
local macro_rules | `(tactic| walk_at "c") => `(tactic| first
  | assumption
  | decide
  | exact And.intro (by decide) (by decide)
  | exact Or.inr (And.intro (by decide) (by decide))
  | exact Or.inl (And.intro (by decide) (by decide))
  | exact And.intro (by decide) (And.intro (by decide) (by decide))
  | exact (show (0 : Int) < _ by decide)
  | exact And.intro (by omega) (by omega)
  | exact Or.inl (And.intro (by omega) (by omega))
  | exact Or.inr (And.intro (by omega) (by omega))
  | exact (show (0 : Int) < _ by omega))
local macro_rules | `(tactic| walk_at "v") => `(tactic| with_reducible first
  | refine W.v0 ?_ | refine W.v1 ?_ | refine W.v2 ?_ | refine W.v3 ?_ | refine W.v4 ?_ | refine W.v5 ?_ | refine W.v6 ?_ | refine W.v7 ?_ | refine W.v8 ?_
  | refine W.v9 ?_ | refine W.v10 ?_ | refine W.v11 ?_ | refine W.v12 ?_ | refine W.v13 ?_ | refine W.v14 ?_ | refine W.v15 ?_ | refine W.v16 ?_ | refine W.v17 ?_
  | refine W.g0 ?_ | refine W.g1 ?_ | refine W.g2 ?_ | refine W.g3 ?_ | refine W.g4 ?_ | refine W.g5 ?_ | refine W.g6 ?_ | refine W.g7 ?_ | refine W.g8 ?_
  | refine W.g9 ?_ | refine W.g10 ?_ | refine W.g11 ?_ | refine W.g12 ?_ | refine W.g13 ?_ | refine W.g14 ?_ | refine W.g15 ?_)
local macro_rules | `(tactic| walk_at "e") => `(tactic| with_reducible first
  | refine W.e_c ?_ | refine W.e_op ?_ | refine W.s_seq ?_ | refine W.s_asg ?_ | refine W.e_CB ?_ | refine W.a_cons ?_ | refine W.a_nil ?_ | refine W.e_call ?_
  | refine W.t_test ?_ | refine W.w_B ?_ | refine W.s_if ?_ | refine W.s_ret ?_ | refine W.s_drop ?_ | refine W.e_un ?_ | refine W.e_fld ?_ | refine W.s_fld ?_
  | refine W.e_meth ?_ | refine W.e_if ?_ | refine W.e_lst ?_ | refine W.e_tup ?_ | refine W.e_sl ?_ | refine W.o_none ?_ | refine W.o_some ?_ | refine W.w_part ?_
  | refine W.e_bm ?_ | refine W.e_bm0 ?_ | refine W.t_B ?_ | refine W.t_and ?_ | refine W.t_or ?_ | refine W.t_not ?_ | refine W.e_andV ?_ | refine W.e_orV ?_ | refine W.e_notV ?_ | refine W.w_BV ?_ | refine W.e_chain ?_
  | refine W.s_aug ?_ | refine W.s_augS ?_ | refine W.s_next ?_ | refine W.s_brk ?_ | refine W.s_cont ?_ | refine W.s_retN ?_ | refine W.s_fa ?_ | refine W.e_make ?_ | refine W.w_make ?_
  | refine W.w_I0 ?_ | refine W.w_U ?_ | refine W.w_aug ?_ | refine W.w_eqI ?_ | refine W.w_neI ?_ | refine W.w_eqS ?_ | refine W.w_neS ?_ | refine W.w_eqB ?_ | refine W.w_neB ?_
  | refine W.w_int ?_ | refine W.w_intB ?_ | refine W.w_min ?_ | refine W.w_max ?_ | refine W.w_isN ?_ | refine W.w_isI ?_ | refine W.w_isS ?_ | refine W.w_isB ?_ | refine W.w_isR ?_
  | refine W.w_notN ?_ | refine W.w_notI ?_ | refine W.w_notR ?_ | refine W.w_notS ?_ | refine W.w_eqNI ?_ | refine W.w_neNI ?_ | refine W.w_eqN ?_ | refine W.w_neN ?_
  | refine W.s_forL ?_ | refine W.s_forT ?_ | refine W.s_forS ?_ | refine W.s_forR1 ?_ | refine W.s_forR2 ?_ | refine W.s_forR3 ?_ | refine W.s_forZ ?_ | refine W.s_forE ?_
  | refine W.e_lcL ?_ | refine W.e_lcT ?_ | refine W.w_ord ?_ | refine W.e_lcR1 ?_ | refine W.e_lcR2 ?_ | refine W.e_lcZ ?_ | refine W.e_lcS ?_ | refine W.t_yes ?_ | refine W.w_gcons ?_ | refine W.w_gnil ?_ | refine W.s_par ?_ | refine W.w_par ?_ | refine W.g_sub ?_ | refine W.e_m1 ?_ | refine W.w_strR ?_ | refine W.w_rAdd ?_ | refine W.w_rSub ?_ | refine W.s_raise ?_ | refine W.s_try ?_ | refine W.e_methS ?_ | refine W.e_callS ?_)
local macro_rules | `(tactic| walk_at "w") => `(tactic| first
  | ((with_reducible refine' W.w_I ?wh ?wq); (case wh => walk_at "c"))
  | ((with_reducible refine' W.w_ixL (n := 0) ?wh ?we ?wq); (case wh => walk_at "f"); (case we => walk_at "a"))
  | ((with_reducible refine' W.w_ixT (n := 0) ?wh ?we ?wq); (case wh => walk_at "f"); (case we => walk_at "a"))
  | ((with_reducible refine' W.w_lenL ?wh ?wq); (case wh => walk_at "f"))
  | ((with_reducible refine' W.w_lenT ?wh ?wq); (case wh => walk_at "f"))
  | ((with_reducible refine' W.w_lenS ?wh ?wq); (case wh => walk_at "n"))
  | ((with_reducible refine' W.w_app ?wh ?we ?wq); (case wh => walk_at "f"); (case we => walk_at "n"))
  | ((with_reducible refine' W.w_meth ?wh ?we ?wq); (case wh => walk_at "f"); (case we => first | assumption | rfl))
  | ((with_reducible refine' W.w_ixLTl ?wh ?we ?wq); (case wh => walk_at "f"); (case we => walk_at "a"))
  | ((with_reducible refine' W.w_ixLTt ?wh ?we ?wq); (case wh => walk_at "f"); (case we => walk_at "a"))
  | ((with_reducible refine' W.w_addS ?wh ?wq); (case wh => walk_at "n"))
  | ((with_reducible refine' W.w_set ?wh ?we ?wq); (case wh => walk_at "f"); (case we => walk_at "a"))
  | ((with_reducible refine' W.w_tup ?wh ?we ?wq); (case wh => walk_at "f"); (case we => first | assumption | rfl))
  | ((with_reducible refine' W.w_slS ?wh ?wq); (case wh => walk_at "n"))
  | ((with_reducible refine' W.w_rApp ?wh ?we ?wq); (case wh => walk_at "f"); (case we => walk_at "n"))
  | ((with_reducible refine' W.w_newL ?wh ?wq); (case wh => walk_at "n"))
  | ((with_reducible refine' W.w_newT ?wh ?wq); (case wh => walk_at "n"))
  | ((with_reducible refine' W.w_listL ?wh ?wq); (case wh => walk_at "f"))
  | ((with_reducible refine' W.w_tupL ?wh ?wq); (case wh => walk_at "f"))
  | ((with_reducible refine' W.w_slL ?wh ?wq); (case wh => walk_at "f"))
  | ((with_reducible refine' W.w_cat ?wh ?wf ?we ?wq); (case wh => walk_at "f"); (case wf => walk_at "f"); (case we => walk_at "n"))
  | ((with_reducible refine' W.w_catT ?wh ?wf ?wx ?wy ?we ?wq); (case wh => walk_at "f"); (case wf => walk_at "f"); (case wx => exact List.cons_ne_nil _ _); (case wy => exact List.cons_ne_nil _ _); (case we => walk_at "n"))
  | ((with_reducible refine' W.w_ext ?wh ?wf ?we ?wq); (case wh => walk_at "f"); (case wf => walk_at "f"); (case we => walk_at "n"))
  | ((with_reducible refine' W.w_recv ?wh ?wq); (case wh => walk_at "f"))
  | ((with_reducible refine' W.w_isi1 ?wh ?we ?wq); (case wh => assumption); (case we => decide +kernel))
  | ((with_reducible refine' W.w_isi0 ?wh ?we ?wq); (case wh => assumption); (case we => decide +kernel))
  | ((with_reducible refine' W.w_isiT10 ?wh ?wf ?we ?wg ?wq); (case wh => assumption); (case wf => walk_at "f"); (case we => decide +kernel); (case wg => decide +kernel))
  | ((with_reducible refine' W.w_isiT01 ?wh ?wf ?we ?wg ?wq); (case wh => assumption); (case wf => walk_at "f"); (case we => decide +kernel); (case wg => decide +kernel))
  | ((with_reducible refine' W.w_isiT00 ?wh ?wf ?we ?wg ?wq); (case wh => assumption); (case wf => walk_at "f"); (case we => decide +kernel); (case wg => decide +kernel))
  | ((with_reducible refine' W.w_ins ?wh ?we ?wf ?wq); (case wh => walk_at "f"); (case we => walk_at "n"); (case wf => walk_at "c"))
  | ((with_reducible refine' W.w_unl ?wh ?we ?wq); (case wh => walk_at "f"); (case we => first | assumption | rfl))
  | ((with_reducible refine' W.ite_T ?_))
  | ((with_reducible refine' W.ite_F ?_))
  | ((with_reducible refine' W.ite_nT ?_))
  | ((with_reducible refine' W.ite_nF ?_))
  | ((with_reducible refine' W.ite_self ?_))
  | ((with_reducible refine' W.ite_nself ?_))
  | ((with_reducible refine' W.ite_tf ?_))
  | ((with_reducible refine' W.ite_ft ?_))
  | ((with_reducible refine' W.ite_ntf ?_))
  | ((with_reducible refine' W.ite_nft ?_))
  | ((with_reducible refine' And.intro ?wl ?wq); (case wl => rfl)))
local macro_rules | `(tactic| walk_at "i") => `(tactic| try (dsimp only [L2.cxOf, L2.wipe, List.map, List.set]))
local macro_rules | `(tactic| walk_at "s") => `(tactic| first | walk_at "v" | walk_at "e" | walk_at "w")
local macro_rules | `(tactic| walk_at "r") => `(tactic| repeat walk_at "s")

namespace My
open PySem L2 W
local macro_rules | `(tactic| walk_at "w") => `(tactic| first
  | ((with_reducible refine' W.w_getF ?wh ?wc ?wn ?wl ?wq); (case wh => walk_at "f"); (case wc => exact Env.c_Reader (by assumption)); (case wn => first | exact Env.x_Reader_data (by assumption) | exact Env.x_Reader_at (by assumption)); (case wl => first | exact lk1 | exact lk2)))
variable {P : Program} {w : World} {K : PySem.W.Frag} {mg : Str → Option Value} {base : Heap} {A : Adr}
def sp_ck (K : PySem.W.Frag) : Sp := fun vs H Q _ => ∃ (a : Addr) (ds : List Int), vs = [.ref a] ∧ H a = some (.lst (ds.map V.int)) ∧ Q (.int (ck ds)) H
theorem ok_checksum (e : Env K mg A) : FnOk P w K mg base CX0 1 A.f_checksum A.d_checksum ["data"] (sp_ck K) := by
  refine e.F_checksum.ok sc_checksum (fun vs H Q E h => ?_) (fun cdv AA outer s H vs Q E hr h => ?_)
  · obtain ⟨a, ds, rfl, _⟩ := h
    rfl
  · obtain ⟨a, ds, rfl, ha, q⟩ := h
    refine ⟨_, (pss_cons (ps_set (i := 1) sc_checksum.nd rfl (Or.inl rfl) pe_int)
    (pss_cons (ps_for PassesOwn.never rfl (pi_listK (K := K) (pv 0)) (pg_name (i := 2) sc_checksum.nd rfl (Or.inl rfl)) (pss_one (ps_set (i := 1) sc_checksum.nd rfl (Or.inl rfl) (pe_op op_mod (pe_op op_add (pe_op op_add (pe_op op_mul pe_int (pv 1)) (pv 2)) pe_int) (pe_glob (by rfl) e.m_CHECKSUM_LIMIT e.r_CHECKSUM_LIMIT)))))
    (pss_one (ps_ret (pv 1))))), ?_⟩
    refine enter (st_checksum _) ?_
    walk_at "i"
    walk_at "r"
    refine forL (SqL.of ha) (fun i σ H' => ∃ v2, σ = [some (.ref a), some (.int (ck (ds.take i))), v2] ∧ H' = H) ⟨_, rfl, rfl⟩ (fun i σ H' _ h => ?_) ?_ ?_
    · obtain ⟨_, _, rfl⟩ := h
      exact SqL.of ha
    · rintro i x σ H' hx ⟨v2, rfl, rfl⟩
      rw [List.getElem?_map] at hx
      cases hb : ds[i]? with
      | none => rw [hb] at hx; cases hx
      | some b =>
        rw [hb] at hx
        cases hx
        have hr := ck_rng (ds.take i)
        walk_at "r"
        refine ⟨some (.int b), ?_, rfl⟩
        rw [List.take_add_one, hb]
        show _ = [_, some (V.int (ck (ds.take i ++ [b]))), _]
        rw [ck_snoc]; rfl
    · rintro σ H' ⟨v2, rfl, rfl⟩
      walk_at "r"
      rw [List.length_map, List.take_length]
      exact q
/-- a record written: a new list -/
def sp_wr (K : PySem.W.Frag) : Sp := fun vs H Q _ => ∃ (a : Addr) (ds : List Int), vs = [.ref a] ∧ H a = some (.lst (ds.map V.int)) ∧ ds.length ≤ 1000000 ∧ ∀ p H', H p = none → Keep [] H H' → H' p = some (.lst ((My.rec ds).map V.int)) → Q (.ref p) H'
theorem lt60 {n : Nat} (h : n ≤ 1000000) : n < 128 ^ 60 := Nat.lt_of_le_of_lt h (by decide)
theorem wn_len3 {n : Nat} (h : n ≤ 1000000) : (wn n).length ≤ 3 := wn_len 2 n (by omega)
theorem ok_write_record (e : Env K mg A) : FnOk P w K mg base CX0 2 A.f_write_record A.d_write_record ["data"] (sp_wr K) := by
  have G_checksum := ok_checksum (P := P) (w := w) (base := base) e
  have G_write_number := ok_write_number (P := P) (w := w) (base := base) e
  refine e.F_write_record.ok sc_write_record (fun vs H Q E h => ?_) (fun cdv AA outer s H vs Q E hr h => ?_)
  · obtain ⟨a, ds, rfl, _⟩ := h
    rfl
  · obtain ⟨a, ds, rfl, ha, hl, q⟩ := h
    refine ⟨_, (pss_cons (ps_set (i := 1) sc_write_record.nd rfl (Or.inl rfl) (pe_call G_checksum (hr.mono (by omega)) (by rfl) e.m_checksum e.k_checksum e.b_checksum .nil pass0 (pa_cons (pv 0) pa_nil)))
    (pss_cons (ps_set (i := 2) sc_write_record.nd rfl (Or.inl rfl) (pe_lst (pa_cons (pe_op op_fdiv (pv 1) pe_int) (pa_cons (pe_op op_mod (pe_op op_fdiv (pv 1) pe_int) pe_int) (pa_cons (pe_op op_mod (pe_op op_fdiv (pv 1) pe_int) pe_int) (pa_cons (pe_op op_mod (pv 1) pe_int) pa_nil))))))
    (pss_one (ps_ret (pe_op op_cat (pe_op op_cat (pe_call G_write_number (hr.mono (by omega)) (by rfl) e.m_write_number e.k_write_number e.b_write_number .nil pass0 (pa_cons (pe_callB (call_lenLK (K := K)) (by rfl) e.n_len (by decide +kernel) (pa_cons (pv 0) pa_nil)) pa_nil)) (pe_callTy (call_listLK (K := K)) (by rfl) e.n_list (by decide +kernel) (pa_cons (pv 0) pa_nil))) (pv 2)))))), ?_⟩
    refine enter (st_write_record _) ?_
    walk_at "i"
    walk_at "r"
    refine ⟨a, ds, rfl, ha, ?_⟩
    have hr := ck_rng ds
    have hwl := wn_len3 hl
    walk_at "r"
    intro t H1 nt k1 ht
    walk_at "r"
    refine ⟨ds.length, by rw [List.length_map]; rfl, lt60 hl, fun n H2 nn k2 hn => ?_⟩
    walk_at "r"
    intro c H3 nc k3 hc
    walk_at "r"
    intro b H4 nb k4 hb
    have ht4 := (k2.trans (k3.trans k4)).get ht (by simp)
    walk_at "r"
    intro r H5 nr k5 hr5
    walk_at "r"
    refine q r H5 ?_ (k1.trans (k2.trans (k3.trans (k4.trans k5)))) ?_
    · exact (k1.trans (k2.trans (k3.trans k4))).free nr (by simp)
    · rw [hr5]
      unfold My.rec tl4
      simp only [List.map_append, List.map_cons, List.map_nil]
def optV (H : Hp) : Option (Nat × Int) → V → Prop
  | none, v => v = .non
  | some (s, n), v => ∃ t, v = .ref t ∧ H t = some (.tup [.int (s : Int), .int n])
def sp_size : Sp := fun vs H Q _ => ∃ (a : Addr) (ds : List Int) (s : Nat), vs = [.ref a, .int (s : Int)] ∧ H a = some (.lst (ds.map V.int)) ∧ (∀ v H', Keep [] H H' → optV H' (rsz ds s) v → Q v H')
theorem ok__read_size (e : Env K mg A) : FnOk P w K mg base CX0 3 A.f__read_size A.d__read_size ["data", "start"] sp_size := by
  have G_Reader_read_number := ok_Reader_read_number (P := P) (w := w) (base := base) e
  have G_Reader___init__ := ok_Reader___init__ (P := P) (w := w) (base := base) e
  refine e.F__read_size.ok sc__read_size (fun vs H Q E h => ?_) (fun cdv AA outer s H vs Q E hr h => ?_)
  · obtain ⟨a, ds, s, rfl, _⟩ := h
    rfl
  · obtain ⟨a, ds, s, rfl, ha, q⟩ := h
    refine ⟨_, (pss_cons (ps_set (i := 2) sc__read_size.nd rfl (Or.inl rfl) (pe_make e.M_Reader G_Reader___init__ (hr.mono (by omega)) (by rfl) e.m_Reader e.b_Reader___init__ .nil pass0 (pa_cons (pe_slice (sl_listK (K := K)) (pv 0) (po_some (pv 1)) (po_some (pe_op op_add (pv 1) pe_int))) pa_nil)))
    (pss_cons (ps_try1 (K := K) rfl rfl ⟨by rfl, by decide, .inl e.m_DamagedPacket⟩ takes0 (fun W pn xe tk po => (pss_one (ps_set (i := 3) sc__read_size.nd rfl (Or.inl rfl) (pe_meth0S (pv 2) e.c_Reader e.h_Reader_read_number G_Reader_read_number (hr.mono (by omega)) e.b_Reader_read_number (fun σ => passAt tk σ))))) (fun a oe cls d pn _ _ => (pss_one (ps_ret pe_non))))
    (pss_one (ps_ret (pe_tup (pa_cons (pe_op op_add (pv 1) (pe_fldK (K := K) (pv 2) rfl)) (pa_cons (pv 3) pa_nil))))))), ?_⟩
    refine enter (st__read_size _ _) ?_
    walk_at "i"
    walk_at "r"
    intro l H1 nl k1 hl
    have es : cutV (ds.map V.int) (some (s : Int)) (some ((s : Int) + 60)) = ((ds.drop s).take 60).map V.int := by
      rw [show (s : Int) + 60 = ((s + 60 : Nat) : Int) by omega, cutV_ne, show s + 60 - s = 60 by omega, ← List.map_drop, ← List.map_take]
    rw [es] at hl
    walk_at "r"
    intro r dx H2 nr k2 hr2
    refine ⟨r, dx, l, (ds.drop s).take 60, rfl, hr2, k2.get hl (by simp), fun d H3 nd k3 R3 => ⟨rfl, ?_⟩⟩
    have k13 : Keep [] H H3 := k1.trans (k2.mut nr k3)
    have nl1 : H r = none := k1.free nr (by simp)
    have hr3 := R3.1
    have hlk : (rdF d 0).lookup ("read_number" : Str) = none := lkn (by decide +kernel) (by decide +kernel)
    have esz := rsz_slice (ds := ds) (s := s)
    walk_at "r"
    refine ⟨r, dx, d, (ds.drop s).take 60, 0, rfl, R3, by rw [List.length_take]; omega, fun n p hn v H4 k4 R4 hv => ?_, fun hn H4 k4 => ?_⟩
    · cases hv
      have hr4 := R4.1
      have k14 : Keep [] H H4 := k13.mut nl1 k4
      walk_at "r"
      intro t H5 nt k5 ht
      walk_at "r"
      refine q _ H5 (k14.trans k5) ?_
      rw [← esz, hn]
      exact ⟨t, rfl, ht⟩
    · refine w_only (exm_D e) (fun x _ => ?_)
      have k14 : Keep [] H H4 := k13.mut nl1 k4
      walk_at "r"
      refine q _ H4 k14 ?_
      rw [← esz, hn]
      rfl
theorem w_neL {H : Hp} {Q : VK} {a b : Addr} {xs ys : List Int} (ha : H a = some (.lst (xs.map V.int))) (hb : H b = some (.lst (ys.map V.int))) (q : Q (.bl (!decide (xs = ys))) H) : rNeD K (.ref a) (.ref b) H Q :=
  ⟨.list (xs.map .int), .list (ys.map .int), (Da.lst ha (DaL.ints xs)).dp, (Da.lst hb (DaL.ints ys)).dp, shp_ints xs, shp_ints ys, by rw [eqv_ints]; exact q⟩
theorem rec_last (r : List Int) : (My.rec r).drop ((My.rec r).length - 4) = tl4 (ck r) := by
  have e : (My.rec r).length - 4 = (wn r.length ++ r).length := by rw [rec_len]; simp
  rw [e]; unfold My.rec; rw [List.drop_left]
theorem lastE_snoc (z : List Int × Nat) : ∀ (l : List (List Int × Nat)) (s : Nat), lastE s (l ++ [z]) = z.2
  | [], _ => rfl
  | _ :: r, _ => lastE_snoc z r _
def sp_rr : Sp := fun vs H Q _ => ∃ (a : Addr) (ds : List Int) (l : List (List Int × Nat)), vs = [.ref a] ∧ H a = some (.lst (ds.map V.int)) ∧ ds.length ≤ 1000000 ∧ Re ds 0 l ∧
  ∀ t p us H', H t = none → Keep [] H H' → H' t = some (.tup [.ref p, .int (lastE 0 l : Int)]) → H' p = some (.lst us) → Lsts H' us (l.map Prod.fst) → Q (.ref t) H'
theorem ok_read_records (e : Env K mg A) : FnOk P w K mg base CX0 4 A.f_read_records A.d_read_records ["data"] sp_rr := by
  have G__read_size := ok__read_size (P := P) (w := w) (base := base) e
  have G_write_record := ok_write_record (P := P) (w := w) (base := base) e
  refine e.F_read_records.ok sc_read_records (fun vs H Q E h => ?_) (fun cdv AA outer s H vs Q E hr h => ?_)
  · obtain ⟨a, ds, l, rfl, _⟩ := h
    rfl
  · obtain ⟨a, ds, rs, rfl, ha, hl, hR, q⟩ := h
    have hrs := hR.len (Nat.zero_le _)
    refine ⟨_, (pss_cons (ps_set (i := 1) sc_read_records.nd rfl (Or.inl rfl) (pe_lst pa_nil))
    (pss_cons (ps_set (i := 2) sc_read_records.nd rfl (Or.inl rfl) pe_int)
    (pss_cons (ps_set (i := 3) sc_read_records.nd rfl (Or.inl rfl) (pe_call G__read_size (hr.mono (by omega)) (by rfl) e.m__read_size e.k__read_size e.b__read_size .nil pass0 (pa_cons (pv 0) (pa_cons (pv 2) pa_nil))))
    (pss_cons (ps_while PassesOwn.never (pt_cmpR op_isNot (pv 3) pe_non (nomark _)) (pss_cons (ps_asg (pv 3) (pg_tupK (K := K) (n := 2) rfl (pgs_cons (pg_name (i := 4) sc_read_records.nd rfl (Or.inl rfl)) (pgs_cons (pg_name (i := 5) sc_read_records.nd rfl (Or.inl rfl)) pgs_nil))))
    (pss_cons (ps_set (i := 6) sc_read_records.nd rfl (Or.inl rfl) (pe_slice (sl_listK (K := K)) (pv 0) (po_some (pv 4)) (po_some (pe_op op_add (pv 4) (pv 5)))))
    (pss_cons (ps_set (i := 7) sc_read_records.nd rfl (Or.inl rfl) (pe_op op_add (pe_op op_add (pv 4) (pv 5)) pe_int))
    (pss_cons (ps_if (PW.pt (pw_or (pt_cmpR op_gt (pv 7) (pe_callB (call_lenLK (K := K)) (by rfl) e.n_len (by decide +kernel) (pa_cons (pv 0) pa_nil)) (nomark _)) (pw_or1 (pt_cmpR (op_neDK hr.units (K := K)) (pe_slice (sl_listK (K := K)) (pe_call G_write_record (hr.mono (by omega)) (by rfl) e.m_write_record e.k_write_record e.b_write_record .nil pass0 (pa_cons (pv 6) pa_nil)) (po_some (pe_un un_neg pe_int)) po_none) (pe_slice (sl_listK (K := K)) (pv 0) (po_some (pe_op op_sub (pv 7) pe_int)) (po_some (pv 7))) (nomark _))))) (pss_one ps_break) pss_nil)
    (pss_cons (ps_expr (pe_bmK (K := K) PySem.F.plainAttrs_list PySem.F.slot_list_append PySem.F.type_list_append mt_append (pv 1) (pa_cons (pv 6) pa_nil)))
    (pss_cons (ps_set (i := 2) sc_read_records.nd rfl (Or.inl rfl) (pv 7))
    (pss_one (ps_set (i := 3) sc_read_records.nd rfl (Or.inl rfl) (pe_call G__read_size (hr.mono (by omega)) (by rfl) e.m__read_size e.k__read_size e.b__read_size .nil pass0 (pa_cons (pv 0) (pa_cons (pv 2) pa_nil))))))))))))
    (pss_one (ps_ret (pe_tup (pa_cons (pv 1) (pa_cons (pv 2) pa_nil))))))))), ?_⟩
    refine enter (st_read_records _) ?_
    walk_at "i"
    walk_at "r"
    intro p H1 np k1 hp
    walk_at "r"
    refine ⟨a, ds, 0, rfl, k1.get ha (by simp), fun v H2 k2 hv => ?_⟩
    walk_at "r"
    refine while_ (fun m σ H' => ∃ (st : Nat) (us : List V) (done rest : List (List Int × Nat)) (v : V) (v4 v5 v6 v7 : Option V), σ = [some (.ref a), some (.ref p), some (.int (st : Int)), some v, v4, v5, v6, v7] ∧ Keep [] H H' ∧ H' p = some (.lst us) ∧ Lsts H' us (done.map Prod.fst) ∧
        rs = done ++ rest ∧ Re ds st rest ∧ lastE 0 done = st ∧ optV H' (rsz ds st) v ∧ m = rest.length) rs.length ⟨0, [], [], rs, v, _, _, _, _, rfl, k1.trans k2, k2.get hp (by simp), .nil, rfl, hR, rfl, hv, rfl⟩ ?_
    rintro m σ H3 ⟨st, us, done, rest, v, v4, v5, v6, v7, rfl, k3, hp3, hL, hrs2, hRr, hst, hv, hm⟩
    have ha3 := k3.get ha (by simp)
    have fin : ∀ (H' : Hp), Bd ds st → Keep [] H3 H' → ∀ (t : Addr) (H5 : Hp), H' t = none → Keep [] H' H5 → H5 t = some (.tup [V.ref p, V.int (st : Int)]) → Q (.ref t) H5 := by
      intro H' hB k t H5 nt k5 ht
      have hre := hRr.bad hB
      subst hre
      rw [List.append_nil] at hrs2
      subst hrs2
      rw [← hst] at ht
      have k35 := k.trans k5
      exact q t p us H5 ((k3.trans k).free nt (by simp)) (k3.trans k35) ht (k35.get hp3 (by simp)) (hL.mono k35)
    cases hz : rsz ds st with
    | none =>
      rw [hz] at hv
      have hv2 : v = .non := hv
      subst hv2
      walk_at "r"
      exact fin H3 (fun b n h => by rw [hz] at h; cases h) Keep.refl
    | some z =>
      obtain ⟨b, n0⟩ := z
      obtain ⟨n, rfl⟩ := Int.eq_ofNat_of_zero_le (rsz_nn hz)
      rw [hz] at hv
      obtain ⟨t, rfl, ht⟩ := hv
      walk_at "r"
      refine turn ?_
      walk_at "r"
      rw [show (b : Int) + (n : Int) = ((b + n : Nat) : Int) by omega, cutV_ne, show b + n - b = n by omega, ← List.map_drop, ← List.map_take]
      intro r H4 nr k4 hr4
      have hr4' : H4 r = some (.lst ((mid ds b n).map V.int)) := hr4
      walk_at "r"
      rw [List.length_map]
      have nG : ¬ Gd ds b n → Bd ds st := fun g b' n' h => by rw [hz] at h; cases h; exact g
      refine ite_dec (fun hlen => ?_) (fun hlen => ?_)
      · walk_at "r"
        exact fin H4 (nG (fun g => by have := g.1; omega)) k4
      · walk_at "r"
        refine ⟨r, mid ds b n, rfl, hr4', by unfold mid; rw [List.length_take, List.length_drop]; omega, fun x H5 nx k5 hx => ?_⟩
        walk_at "r"
        rw [show -(4 : Int) = -((4 : Nat) : Int) from rfl, cutV_last _ 4 (by rw [List.length_map, rec_len]; omega) (by omega), List.length_map, ← List.map_drop, rec_last]
        intro y H6 ny k6 hy
        walk_at "r"
        rw [show (b : Int) + (n : Int) + 4 - 4 = ((b + n : Nat) : Int) by omega, show (b : Int) + (n : Int) + 4 = ((b + n + 4 : Nat) : Int) by omega, cutV_ne, show b + n + 4 - (b + n) = 4 by omega, ← List.map_drop, ← List.map_take]
        intro z H7 nz k7 hz7
        have hz7' : H7 z = some (.lst ((mid ds (b + n) 4).map V.int)) := hz7
        refine w_neL (k7.get hy (by simp)) hz7' ?_
        have k47 := k4.trans (k5.trans (k6.trans k7))
        walk_at "r"
        refine ite_ndec (fun hne => ?_) (fun hne => ?_)
        · walk_at "r"
          exact fin H7 (nG (fun g => hne g.2)) k47
        · obtain ⟨rest', rfl, hR2⟩ := hRr.good hz ⟨by omega, hne⟩
          have hp7 := k47.get hp3 (by simp)
          have hLl := Paired.length hL
          rw [List.length_map] at hLl
          have hrl := congrArg List.length hrs2
          rw [List.length_append] at hrl
          walk_at "r"
          intro H8 k8 h8
          walk_at "r"
          refine ⟨a, ds, b + n + 4, by simp, ?_, fun v H9 k9 hv9 => ?_⟩
          · have := (k3.trans k47).get ha (by simp)
            exact ((k3.trans k47).mut np k8).get ha (by simp)
          walk_at "r"
          refine ⟨rest'.length, by simp [hm], b + n + 4, _, done ++ [(mid ds b n, b + n + 4)], rest', v, _, _, _, _, rfl, ((k3.trans k47).mut np k8).trans k9, k9.get h8 (by simp), ?_, by rw [hrs2]; simp, hR2, lastE_snoc _ _ _, hv9, rfl⟩
          have hr8 : H8 r = some (.lst ((mid ds b n).map V.int)) := k8.get ((k5.trans (k6.trans k7)).get hr4' (by simp)) (by
            intro z; simp at z; subst z; rw [hp3] at nr; cases nr)
          rw [List.map_append]
          exact Lsts.mono (Paired.snoc (Lsts.mut hp7 k8 (hL.mono k47)) ⟨r, rfl, hr8⟩) k9
end My

end
section
set_option maxHeartbeats 4000000
local macro_rules | `(tactic| walk_at "k") => `(tactic| first
  | assumption
  | exact W.Keep.trans (by assumption) (by assumption)
  | exact And.intro (by grind [W.Keep, W.Kp]) (by grind [W.Keep, W.Kt])
  | grind [W.Keep, W.Kp])
local macro_rules | `(tactic| walk_at "f") => `(tactic| first
  | assumption
  | exact L2.SqL.of (by assumption)
  | exact L2.SqT.of (by assumption)
  | exact L2.SqL.of L2.upd_same
  | exact L2.SqT.of L2.upd_same
  | exact L2.upd_same
  | exact W.carryL (by assumption) (by assumption)
  | exact W.carryL (by assumption) (by walk_at "k")
  | exact W.carryT (by assumption) (by walk_at "k")
  | exact W.carry (by assumption) (by grind [W.Keep, W.Kp])
  | exact L2.SqL.of (W.carry (by assumption) (by grind [W.Keep, W.Kp]))
  | exact L2.SqT.of (W.carry (by assumption) (by grind [W.Keep, W.Kp])))
local macro_rules | `(tactic| walk_at "a") => `(tactic| first
  | assumption
  | rfl)
local macro_rules | `(tactic| walk_at "n") => `(tactic| first
  | assumption
  | exact Nat.zero_le _
  | decide
  | (simp only [List.length_cons, List.length_nil]; decide)
  | omega
  | (simp only [PySem.sizeLine_eq]; omega)
  | (simp only [List.length_map, List.length_append, List.length_cons, List.length_nil, PySem.sizeLine_eq]; omega)
  | (simp only [List.length_map, List.length_append, List.length_cons, List.length_nil, List.length_take, List.length_drop, PySem.sizeLine_eq]; omega)
  | (simp only [List.length_map, List.length_append, List.length_cons, List.length_nil, PySem.sizeLine_eq] at *; omega))
local macro_rules | `(tactic| walk_at "c") => `(tactic| first
  | assumption
  | decide
  | exact And.intro (by decide) (by decide)
  | exact Or.inr (And.intro (by decide) (by decide))
  | exact Or.inl (And.intro (by decide) (by decide))
  | exact And.intro (by decide) (And.intro (by decide) (by decide))
  | exact (show (0 : Int) < _ by decide)
  | exact And.intro (by omega) (by omega)
  | exact Or.inl (And.intro (by omega) (by omega))
  | exact Or.inr (And.intro (by omega) (by omega))
  | exact (show (0 : Int) < _ by omega))
local macro_rules | `(tactic| walk_at "v") => `(tactic| with_reducible first
  | refine W.v0 ?_ | refine W.v1 ?_ | refine W.v2 ?_ | refine W.v3 ?_ | refine W.v4 ?_ | refine W.v5 ?_ | refine W.v6 ?_ | refine W.v7 ?_ | refine W.v8 ?_
  | refine W.v9 ?_ | refine W.v10 ?_ | refine W.v11 ?_ | refine W.v12 ?_ | refine W.v13 ?_ | refine W.v14 ?_ | refine W.v15 ?_ | refine W.v16 ?_ | refine W.v17 ?_
  | refine W.g0 ?_ | refine W.g1 ?_ | refine W.g2 ?_ | refine W.g3 ?_ | refine W.g4 ?_ | refine W.g5 ?_ | refine W.g6 ?_ | refine W.g7 ?_ | refine W.g8 ?_
  | refine W.g9 ?_ | refine W.g10 ?_ | refine W.g11 ?_ | refine W.g12 ?_ | refine W.g13 ?_ | refine W.g14 ?_ | refine W.g15 ?_)
local macro_rules | `(tactic| walk_at "e") => `(tactic| with_reducible first
  | refine W.e_c ?_ | refine W.e_op ?_ | refine W.s_seq ?_ | refine W.s_asg ?_ | refine W.e_CB ?_ | refine W.a_cons ?_ | refine W.a_nil ?_ | refine W.e_call ?_
  | refine W.t_test ?_ | refine W.w_B ?_ | refine W.s_if ?_ | refine W.s_ret ?_ | refine W.s_drop ?_ | refine W.e_un ?_ | refine W.e_fld ?_ | refine W.s_fld ?_
  | refine W.e_meth ?_ | refine W.e_if ?_ | refine W.e_lst ?_ | refine W.e_tup ?_ | refine W.e_sl ?_ | refine W.o_none ?_ | refine W.o_some ?_ | refine W.w_part ?_
  | refine W.e_bm ?_ | refine W.e_bm0 ?_ | refine W.t_B ?_ | refine W.t_and ?_ | refine W.t_or ?_ | refine W.t_not ?_ | refine W.e_andV ?_ | refine W.e_orV ?_ | refine W.e_notV ?_ | refine W.w_BV ?_ | refine W.e_chain ?_
  | refine W.s_aug ?_ | refine W.s_augS ?_ | refine W.s_next ?_ | refine W.s_brk ?_ | refine W.s_cont ?_ | refine W.s_retN ?_ | refine W.s_fa ?_ | refine W.e_make ?_ | refine W.w_make ?_
  | refine W.w_I0 ?_ | refine W.w_U ?_ | refine W.w_aug ?_ | refine W.w_eqI ?_ | refine W.w_neI ?_ | refine W.w_eqS ?_ | refine W.w_neS ?_ | refine W.w_eqB ?_ | refine W.w_neB ?_
  | refine W.w_int ?_ | refine W.w_intB ?_ | refine W.w_min ?_ | refine W.w_max ?_ | refine W.w_isN ?_ | refine W.w_isI ?_ | refine W.w_isS ?_ | refine W.w_isB ?_ | refine W.w_isR ?_
  | refine W.w_notN ?_ | refine W.w_notI ?_ | refine W.w_notR ?_ | refine W.w_notS ?_ | refine W.w_eqNI ?_ | refine W.w_neNI ?_ | refine W.w_eqN ?_ | refine W.w_neN ?_
  | refine W.s_forL ?_ | refine W.s_forT ?_ | refine W.s_forS ?_ | refine W.s_forR1 ?_ | refine W.s_forR2 ?_ | refine W.s_forR3 ?_ | refine W.s_forZ ?_ | refine W.s_forE ?_
  | refine W.e_lcL ?_ | refine W.e_lcT ?_ | refine W.w_ord ?_ | refine W.e_lcR1 ?_ | refine W.e_lcR2 ?_ | refine W.e_lcZ ?_ | refine W.e_lcS ?_ | refine W.t_yes ?_ | refine W.w_gcons ?_ | refine W.w_gnil ?_ | refine W.s_par ?_ | refine W.w_par ?_ | refine W.g_sub ?_ | refine W.e_m1 ?_ | refine W.w_strR ?_ | refine W.w_rAdd ?_ | refine W.w_rSub ?_ | refine W.s_raise ?_ | refine W.s_try ?_ | refine W.e_methS ?_ | refine W.e_callS ?_)
local macro_rules | `(tactic| walk_at "w") => `(tactic| first
  | ((with_reducible refine' W.w_I ?wh ?wq); (case wh => walk_at "c"))
  | ((with_reducible refine' W.w_ixL (n := 0) ?wh ?we ?wq); (case wh => walk_at "f"); (case we => walk_at "a"))
  | ((with_reducible refine' W.w_ixT (n := 0) ?wh ?we ?wq); (case wh => walk_at "f"); (case we => walk_at "a"))
  | ((with_reducible refine' W.w_lenL ?wh ?wq); (case wh => walk_at "f"))
  | ((with_reducible refine' W.w_lenT ?wh ?wq); (case wh => walk_at "f"))
  | ((with_reducible refine' W.w_lenS ?wh ?wq); (case wh => walk_at "n"))
  | ((with_reducible refine' W.w_app ?wh ?we ?wq); (case wh => walk_at "f"); (case we => walk_at "n"))
  | ((with_reducible refine' W.w_meth ?wh ?we ?wq); (case wh => walk_at "f"); (case we => first | assumption | rfl))
  | ((with_reducible refine' W.w_ixLTl ?wh ?we ?wq); (case wh => walk_at "f"); (case we => walk_at "a"))
  | ((with_reducible refine' W.w_ixLTt ?wh ?we ?wq); (case wh => walk_at "f"); (case we => walk_at "a"))
  | ((with_reducible refine' W.w_addS ?wh ?wq); (case wh => walk_at "n"))
  | ((with_reducible refine' W.w_set ?wh ?we ?wq); (case wh => walk_at "f"); (case we => walk_at "a"))
  | ((with_reducible refine' W.w_tup ?wh ?we ?wq); (case wh => walk_at "f"); (case we => first | assumption | rfl))
  | ((with_reducible refine' W.w_slS ?wh ?wq); (case wh => walk_at "n"))
  | ((with_reducible refine' W.w_rApp ?wh ?we ?wq); (case wh => walk_at "f"); (case we => walk_at "n"))
  | ((with_reducible refine' W.w_newL ?wh ?wq); (case wh => walk_at "n"))
  | ((with_reducible refine' W.w_newT ?wh ?wq); (case wh => walk_at "n"))
  | ((with_reducible refine' W.w_listL ?wh ?wq); (case wh => walk_at "f"))
  | ((with_reducible refine' W.w_tupL ?wh ?wq); (case wh => walk_at "f"))
  | ((with_reducible refine' W.w_slL ?wh ?wq); (case wh => walk_at "f"))
  | ((with_reducible refine' W.w_cat ?wh ?wf ?we ?wq); (case wh => walk_at "f"); (case wf => walk_at "f"); (case we => walk_at "n"))
  | ((with_reducible refine' W.w_catT ?wh ?wf ?wx ?wy ?we ?wq); (case wh => walk_at "f"); (case wf => walk_at "f"); (case wx => exact List.cons_ne_nil _ _); (case wy => exact List.cons_ne_nil _ _); (case we => walk_at "n"))
  | ((with_reducible refine' W.w_ext ?wh ?wf ?we ?wq); (case wh => walk_at "f"); (case wf => walk_at "f"); (case we => walk_at "n"))
  | ((with_reducible refine' W.w_recv ?wh ?wq); (case wh => walk_at "f"))
  | ((with_reducible refine' W.w_isi1 ?wh ?we ?wq); (case wh => assumption); (case we => decide +kernel))
  | ((with_reducible refine' W.w_isi0 ?wh ?we ?wq); (case wh => assumption); (case we => decide +kernel))
  | ((with_reducible refine' W.w_isiT10 ?wh ?wf ?we ?wg ?wq); (case wh => assumption); (case wf => walk_at "f"); (case we => decide +kernel); (case wg => decide +kernel))
  | ((with_reducible refine' W.w_isiT01 ?wh ?wf ?we ?wg ?wq); (case wh => assumption); (case wf => walk_at "f"); (case we => decide +kernel); (case wg => decide +kernel))
  | ((with_reducible refine' W.w_isiT00 ?wh ?wf ?we ?wg ?wq); (case wh => assumption); (case wf => walk_at "f"); (case we => decide +kernel); (case wg => decide +kernel))
  | ((with_reducible refine' W.w_ins ?wh ?we ?wf ?wq); (case wh => walk_at "f"); (case we => walk_at "n"); (case wf => walk_at "c"))
  | ((with_reducible refine' W.w_unl ?wh ?we ?wq); (case wh => walk_at "f"); (case we => first | assumption | rfl))
  | ((with_reducible refine' W.ite_T ?_))
  | ((with_reducible refine' W.ite_F ?_))
  | ((with_reducible refine' W.ite_nT ?_))
  | ((with_reducible refine' W.ite_nF ?_))
  | ((with_reducible refine' W.ite_self ?_))
  | ((with_reducible refine' W.ite_nself ?_))
  | ((with_reducible refine' W.ite_tf ?_))
  | ((with_reducible refine' W.ite_ft ?_))
  | ((with_reducible refine' W.ite_ntf ?_))
  | ((with_reducible refine' W.ite_nft ?_))
  | ((with_reducible refine' And.intro ?wl ?wq); (case wl => rfl)))
local macro_rules | `(tactic| walk_at "i") => `(tactic| try (dsimp only [L2.cxOf, L2.wipe, List.map, List.set]))
local macro_rules | `(tactic| walk_at "s") => `(tactic| first | walk_at "v" | walk_at "e" | walk_at "w")
local macro_rules | `(tactic| walk_at "r") => `(tactic| repeat walk_at "s")

namespace My
open PySem L2 W
local macro_rules | `(tactic| walk_at "w") => `(tactic| first
  | ((with_reducible refine' W.w_getF ?wh ?wc ?wn ?wl ?wq); (case wh => walk_at "f"); (case wc => first | exact Env.c_Deeds (by assumption) | exact Env.c_Base (by assumption) | exact Env.c_Reader (by assumption)); (case wn => first | exact Env.x_Deeds_rows (by assumption) | exact Env.x_Base_commits (by assumption) | exact Env.x_Base_deeds (by assumption) | exact Env.x_Reader_data (by assumption) | exact Env.x_Reader_at (by assumption)); (case wl => first | exact lkD | exact lkB1 | exact lkB2 | exact lk1 | exact lk2))
  | ((with_reducible refine' W.w_setF ?wh ?wc ?wn ?wl ?wq); (case wh => walk_at "f"); (case wc => first | exact Env.c_Deeds (by assumption) | exact Env.c_Base (by assumption)); (case wn => first | exact Env.x_Deeds_rows (by assumption) | exact Env.x_Base_commits (by assumption) | exact Env.x_Base_deeds (by assumption)); (case wl => first | exact (show 0 < 1000 by decide) | exact (show 1 < 1000 by decide) | exact (show 2 < 1000 by decide) | exact Nat.lt_of_le_of_lt (length_putF _ _ _) (show 1 < 1000 by decide))))
variable {P : Program} {w : World} {K : PySem.W.Frag} {mg : Str → Option Value} {base : Heap} {A : Adr}
/-- one row more, the reader having moved -/
theorem RowsN.pushI {H0 H H1 H2 : Hp} {rs t r C dx : Addr} {fs : List (Str × V)} {rows : Rws} {row : List Dd} {us : List V} (h : RowsN H0 H rs rows) (n0 : H0 t = none) (hr0 : H r = some (.ins C dx fs)) (hu : H rs = some (.lst us)) (nt : H t = none) (k1 : Keep [r] H H1) (hr : Row H1 t row) (k2 : Keep [rs] H1 H2) (h2 : H2 rs = some (.lst (us ++ [.ref t]))) : RowsN H0 H2 rs (rows ++ [row]) := by
  have hI := h.keepI hr0 k1
  obtain ⟨ts, h1, hn, h3, h4⟩ := h
  rw [h1] at hu
  cases hu
  have nr : ∀ x us, H x = some (.lst us) → x ∉ [r] := fun x us hx z => by
    rw [List.mem_singleton] at z; subst z; rw [hr0] at hx; cases hx
  have nrs : rs ≠ t := ne_of_none h1 nt
  have nts : ∀ x ∈ ts, x ≠ t := fun x hx e => by
    subst e
    obtain ⟨i, hi, e⟩ := List.getElem_of_mem hx
    obtain ⟨row, hrow, ws, hws, _⟩ := pd_get h3 (List.getElem?_eq_getElem hi)
    rw [e] at hws
    rw [hws] at nt; cases nt
  refine ⟨ts ++ [t], by rw [h2, List.map_append]; rfl, ?_, ?_, ?_⟩
  · rw [← List.cons_append, List.nodup_append]
    refine ⟨hn, by simp, fun x hx y hy => ?_⟩
    rw [List.mem_singleton] at hy
    subst hy
    rcases List.mem_cons.mp hx with rfl | hx
    · exact nrs
    · exact nts x hx
  · have hrs : ∀ x ∈ ts, x ∉ [rs] := fun x hx z => by
      rw [List.mem_singleton] at z
      subst z
      exact (List.nodup_cons.mp hn).1 hx
    exact Paired.snoc (pd_mem h3 fun x y hx h => (h.mono k1 (nr _ _ h.choose_spec.1)).mono k2 (hrs x hx)) (hr.mono k2 (by simp [Ne.symm nrs]))
  · intro x hx
    rw [← List.cons_append] at hx
    rcases List.mem_append.mp hx with hx | hx
    · exact h4 x hx
    · rw [List.mem_singleton] at hx
      subst hx
      exact n0
def sp_rdeeds (A : Adr) : Sp := fun vs H Q E => ∃ (r dx d : Addr) (ds : List Int) (p : Nat), vs = [.ref r] ∧ RdAt A.C_Reader H r dx d ds p ∧ ds.length ≤ 1000000 ∧
  (∀ row q, pdeeds ds p = some (row, q) → ∀ a H', H a = none → Keep [r] H H' → RdAt A.C_Reader H' r dx d ds q → Row H' a row → Q (.ref a) H') ∧ (pdeeds ds p = none → ∀ H', Keep [r] H H' → E (.ref A.C_DamagedPacket) none H')
theorem stays_D : Stays vD := fun _ _ _ _ _ h k => vD.keep h k
theorem ok_Reader_read_deeds (e : Env K mg A) : FnOk P w K mg base (L2.CX P w) 6 A.f_Reader_read_deeds A.d_Reader_read_deeds ["self"] (sp_rdeeds A) := by
  have G_Reader_read_count := ok_Reader_read_count (P := P) (w := w) (base := base) e
  have G_Reader_read_deed := ok_Reader_read_deed (P := P) (w := w) (base := base) e
  refine e.F_Reader_read_deeds.okX sc_Reader_read_deeds (fun vs H Q E h => ?_) (fun cdv AA outer s H vs Q E hr h => ?_)
  · obtain ⟨r, dx, d, ds, p, rfl, _⟩ := h
    rfl
  · obtain ⟨r, dx, d, ds, p, rfl, hR, hl, q1, q2⟩ := h
    refine ⟨_, (pss_one (ps_ret (pe_lcX (own := [("_", 1)]) rfl rfl (takes_of rfl rfl rfl rfl) (by rfl) sc_Reader_read_deeds.nd (pi_range1 rfl e.n_range (pa_cons (pe_meth0 (pv 0) e.c_Reader e.h_Reader_read_count G_Reader_read_count (hr.mono (by omega)) e.b_Reader_read_count .nil (passes_call (takes_of rfl rfl rfl rfl) (fun _ _ _ _ h => h))) pa_nil)) (blkOk_by (own := [("_", 1)]) (N := nm_Reader_read_deeds) (sc := defScope s_Reader_read_deeds) (by decide +kernel)) (fun _ _ _ _ _ => (pg_name (i := 1) sc_Reader_read_deeds.nd rfl (Or.inl rfl))) (fun _ _ _ _ _ => pts_nil) (fun _ _ _ _ _ xe tkx => (pe_meth0 (pv 0) e.c_Reader e.h_Reader_read_deed G_Reader_read_deed (hr.mono (by omega)) e.b_Reader_read_deed .nil (passes_call tkx (fun _ _ _ _ h => h))))))), ?_⟩
    refine enter (st_Reader_read_deeds _) ?_
    walk_at "i"
    have hr1 := hR.1
    have hlk_p : (rdF d p).lookup ("read_count" : Str) = none := lkn (by decide +kernel) (by decide +kernel)
    walk_at "r"
    refine ⟨r, dx, d, ds, p, rfl, hR, hl, fun c q hc v H2 k2 R2 hv => ?_, fun hc H2 k2 => q2 (by unfold pdeeds plist; rw [hc]; rfl) H2 k2⟩
    cases hv
    have hcl := (pcnt_le hc).1
    have e1 : pdeeds ds p = pmany (pdd ds) c q := by unfold pdeeds plist; rw [hc]; rfl
    walk_at "r"
    walk_at "i"
    refine lcR1 (by omega) (by omega) (fun D i H' => Many A.C_Reader pdd vD H2 r dx d ds q D i H') (fun D H3 nD k3 hD => Many.start R2 k3 hD) ?_ ?_
    · rintro D i H3 nD hi ⟨us, l, q', k3, hD, R3, hm, hv⟩
      have hr3 := R3.1
      have hul := Many.len (C := A.C_Reader) hm hv
      have rD := ne_of_none R2.1 nD
      walk_at "i"
      have hlk : (rdF d q').lookup ("read_deed" : Str) = none := lkn (by decide +kernel) (by decide +kernel)
      walk_at "r"
      refine ⟨r, dx, d, ds, q', rfl, R3, hl, fun a q2' ha v H4 k4 R4 hv4 => ?_, fun ha H4 k4 => q2 (by rw [e1]; exact pmany_stop (pdd ds) hm ha (by omega)) H4 (k2.trans (k3.trans k4))⟩
      have hD4 := k4.get hD (by simp [Ne.symm rD])
      walk_at "r"
      intro H5 k5 h5
      exact Many.next stays_D R2 nD k3 hm hv ha k4 R4 hv4 k5 h5
    · rintro D H3 nD ⟨us, l, q', k3, hD, R3, hm, hv⟩
      have rD := ne_of_none R2.1 nD
      walk_at "r"
      simp only [Int.toNat_natCast] at hm
      exact q1 l q' (by rw [e1]; exact hm) _ H3 (k2.free nD (by simp [Ne.symm rD])) (k2.trans k3) R3 ⟨us, hD, hv⟩
/-! what is written -/
def wrow (row : List Dd) : List Int := wl (row.map wd)
def wbs (bs : Bs) : List Int := wn bs.1 ++ (bs.2.map wrow).flatten
def sp_wbase (A : Adr) : Sp := fun vs H Q _ => ∃ (b : Addr) (bs : Bs), vs = [.ref b] ∧ Ba A H b bs ∧ bs.2.length = 8 ∧ bs.1 ≤ 10000000 ∧ (∀ row ∈ bs.2, row.length ≤ 1000000 ∧ ∀ d ∈ row, okd d) ∧ (wbs bs).length ≤ 10000000 ∧ ∀ p H', H p = none → Keep [] H H' → H' p = some (.lst ((wbs bs).map V.int)) → Q (.ref p) H'
theorem ok__write_base (e : Env K mg A) : FnOk P w K mg base CX0 5 A.f__write_base A.d__write_base ["base"] (sp_wbase A) := by
  have G_write_number := ok_write_number (P := P) (w := w) (base := base) e
  have G_write_list := ok_write_list (P := P) (w := w) (base := base) e
  have G_write_deed := ok_write_deed (P := P) (w := w) (base := base) e
  refine e.F__write_base.ok sc__write_base (fun vs H Q E h => ?_) (fun cdv AA outer s H vs Q E hr h => ?_)
  · obtain ⟨b, bs, rfl, _⟩ := h
    rfl
  · obtain ⟨b, bs, rfl, ⟨dx, d, hb, ⟨dxd, rs, hd, ⟨ts, h1, h2, h3, h4⟩, _⟩, _⟩, h8, hc, hok, hsz, q⟩ := h
    have htl := Paired.length h3
    refine ⟨_, (pss_cons (ps_set (i := 1) sc__write_base.nd rfl (Or.inl rfl) (pe_call G_write_number (hr.mono (by omega)) (by rfl) e.m_write_number e.k_write_number e.b_write_number .nil pass0 (pa_cons (pe_fldK (K := K) (pv 0) rfl) pa_nil)))
    (pss_cons (ps_for PassesOwn.never rfl (pi_listK (K := K) (pe_fldK (K := K) (pe_fldK (K := K) (pv 0) rfl) rfl)) (pg_name (i := 2) sc__write_base.nd rfl (Or.inl rfl)) (pss_one (ps_expr (pe_bmK (K := K) PySem.F.plainAttrs_list PySem.F.slot_list_extend PySem.F.type_list_extend mt_extend (pv 1) (pa_cons (pe_call G_write_list (hr.mono (by omega)) (by rfl) e.m_write_list e.k_write_list e.b_write_list .nil pass0 (pa_cons (pe_lc (own := [("deed", 3)]) (by rfl) sc__write_base.nd (pi_listK (K := K) (pv 2)) (blkOk_by (own := [("deed", 3)]) (N := nm__write_base) (sc := defScope s__write_base) (by decide +kernel)) (fun _ _ _ _ _ => (pg_name (i := 3) sc__write_base.nd rfl (Or.inl rfl))) (fun _ _ _ _ _ => pts_nil) (fun _ _ _ _ _ => (pe_call G_write_deed (hr.mono (by omega)) (by rfl) e.m_write_deed e.k_write_deed e.b_write_deed .nil pass0 (pa_cons (pv 3) pa_nil)))) pa_nil)) pa_nil)))))
    (pss_one (ps_ret (pv 1))))), ?_⟩
    refine enter (st__write_base _) ?_
    walk_at "i"
    walk_at "r"
    refine ⟨bs.1, rfl, lt60' hc, fun p H1 np k1 hp => ?_⟩
    have hb1 := k1.get hb (by simp)
    have hd1 := k1.get hd (by simp)
    walk_at "r"
    refine forL (SqL.of (k1.get h1 (by simp))) (fun i σ H' => ∃ v2 v3, σ = [some (.ref b), some (.ref p), v2, v3] ∧ Keep [] H H' ∧ H' p = some (.lst ((wn bs.1 ++ ((bs.2.take i).map wrow).flatten).map V.int)))
      ⟨_, _, rfl, k1, by simpa using hp⟩ (fun i σ H' _ h => ?_) ?_ ?_
    · obtain ⟨_, _, _, k, _⟩ := h
      exact SqL.of (k.get h1 (by simp))
    · rintro i x σ H2 hx ⟨v2, v3, rfl, k2, hp2⟩
      rw [List.getElem?_map, Option.map_eq_some_iff] at hx
      obtain ⟨t, ht, rfl⟩ := hx
      obtain ⟨row, hrow, ws', hws, hpd⟩ := pd_get h3 ht
      have hws2 := k2.get hws (by simp)
      have hpd2 : Paired (fun v d => vD H2 d v) ws' row := Paired.mapP hpd fun _ _ h => vD.keep h k2
      obtain ⟨hrl, hrok⟩ := hok row (List.mem_of_getElem? hrow)
      have hwl := Paired.length hpd
      have e1 : ((bs.2.take (i + 1)).map wrow).flatten = ((bs.2.take i).map wrow).flatten ++ wrow row := by rw [List.take_add_one, hrow]; simp
      have hsz2 : (wn bs.1 ++ ((bs.2.take i).map wrow).flatten).length + (wrow row).length ≤ 10000000 := by
        have h1 := take_flat_len (bs.2.map wrow) (i + 1)
        rw [← List.map_take, e1, List.length_append] at h1
        unfold wbs at hsz
        rw [List.length_append] at hsz
        rw [List.length_append]; omega
      have hwr : (wrow row).length ≤ 10000000 := by omega
      walk_at "r"
      refine lcL (SqL.of hws2) (fun D j H' => Keep [] H2 H' ∧ ∃ us, H' D = some (.lst us) ∧ Lsts H' us ((row.take j).map wd)) (fun D H3 nD k3 hD => ⟨k3, [], hD, by rw [List.take_zero]; exact Paired.nil⟩) (fun D j H' _ h => SqL.of (h.1.get hws2 (by simp))) ?_ ?_
      · rintro D j y H3 nD hy ⟨k3, us, hD, hL⟩
        obtain ⟨dd, hdd, hvd⟩ := pd_get hpd2 hy
        have hul := hL.len
        rw [List.length_map, List.length_take] at hul
        have hjl := (List.getElem?_eq_some_iff.mp hdd).1
        have hdm := List.mem_of_getElem? hdd
        have hdl : (wd dd).length ≤ 10000000 := by
          have := mem_flat_len (List.mem_map_of_mem (f := wd) hdm)
          unfold wrow wl at hwr
          rw [List.length_append] at hwr
          omega
        walk_at "i"
        walk_at "r"
        refine ⟨y, dd, rfl, vD.keep hvd k3, hrok dd hdm, hdl, fun a H4 na k4 ha => ?_⟩
        have hD4 := k4.get hD (by simp)
        have naD := ne_of_none hD na
        walk_at "r"
        intro H5 k5 h5
        refine ⟨(k3.trans k4).mut nD k5, us ++ [.ref a], h5, ?_⟩
        rw [List.take_add_one, hdd, List.map_append]
        exact Paired.snoc (Lsts.mut hD4 k5 (hL.mono k4)) ⟨a, rfl, k5.get ha (by simp [Ne.symm naD])⟩
      · rintro D H3 nD ⟨k3, us, hD, hL⟩
        rw [hwl, List.take_length] at hL
        walk_at "r"
        refine ⟨D, us, row.map wd, rfl, hD, hL, by rw [List.length_map]; omega, hwr, fun a H4 na k4 ha => ?_⟩
        have k24 := k3.trans k4
        have hp4 := k24.get hp2 (by simp)
        have hwrl : (wl (row.map wd)).length ≤ 10000000 := hwr
        have hsz3 : (wn bs.1 ++ ((bs.2.take i).map wrow).flatten).length + (wl (row.map wd)).length ≤ 10000000 := hsz2
        walk_at "r"
        intro H5 k5 h5
        walk_at "r"
        refine ⟨_, _, rfl, (k2.trans k24).mut np k5, ?_⟩
        rw [h5, e1]
        simp [wrow]
    · rintro σ H2 ⟨v2, v3, rfl, k2, hp2⟩
      rw [List.length_map, htl, List.take_length] at hp2
      walk_at "r"
      exact q p H2 np k2 hp2
def wlog (t : Nat) (bs : Bs) : List Int := My.rec (1 :: wn t) ++ My.rec (3 :: wbs bs) ++ My.rec [2]
def sp_lstart (A : Adr) : Sp := fun vs H Q _ => ∃ (t : Nat) (b : Addr) (bs : Bs), vs = [.int (t : Int), .ref b] ∧ t ≤ 1000000 ∧ Ba A H b bs ∧ bs.2.length = 8 ∧ bs.1 ≤ 10000000 ∧ (∀ row ∈ bs.2, row.length ≤ 1000000 ∧ ∀ d ∈ row, okd d) ∧ (wbs bs).length ≤ 900000 ∧ ∀ p H', H p = none → Keep [] H H' → H' p = some (.lst ((wlog t bs).map V.int)) → Q (.ref p) H'
theorem ok_log_start (e : Env K mg A) : FnOk P w K mg base CX0 6 A.f_log_start A.d_log_start ["turn", "base"] (sp_lstart A) := by
  have G_write_number := ok_write_number (P := P) (w := w) (base := base) e
  have G_write_record := ok_write_record (P := P) (w := w) (base := base) e
  have G__write_base := ok__write_base (P := P) (w := w) (base := base) e
  refine e.F_log_start.ok sc_log_start (fun vs H Q E h => ?_) (fun cdv AA outer s H vs Q E hr h => ?_)
  · obtain ⟨t, b, bs, rfl, _⟩ := h
    rfl
  · obtain ⟨t, b, bs, rfl, ht, hB, h8, hc, hok, hsz, q⟩ := h
    have l1 := wn_len3 ht
    have r1 : (My.rec (1 :: wn t)).length ≤ 20 := by
      rw [rec_len]
      have := wn_len 0 (1 :: wn t).length (by rw [List.length_cons]; omega)
      rw [List.length_cons] at this ⊢
      omega
    have r2 : (My.rec (3 :: wbs bs)).length ≤ 900010 := by
      rw [rec_len]
      have := wn_len3 (n := (3 :: wbs bs).length) (by rw [List.length_cons]; omega)
      rw [List.length_cons] at this ⊢
      omega
    have r3 : (My.rec [2]).length ≤ 20 := by
      rw [rec_len]
      have := wn_len 0 ([2] : List Int).length (by decide)
      simp only [List.length_cons, List.length_nil] at this ⊢
      omega
    refine ⟨_, (pss_one (ps_ret (pe_op op_cat (pe_op op_cat (pe_call G_write_record (hr.mono (by omega)) (by rfl) e.m_write_record e.k_write_record e.b_write_record .nil pass0 (pa_cons (pe_op op_cat (pe_lst (pa_cons pe_int pa_nil)) (pe_call G_write_number (hr.mono (by omega)) (by rfl) e.m_write_number e.k_write_number e.b_write_number .nil pass0 (pa_cons (pv 0) pa_nil))) pa_nil)) (pe_call G_write_record (hr.mono (by omega)) (by rfl) e.m_write_record e.k_write_record e.b_write_record .nil pass0 (pa_cons (pe_op op_cat (pe_lst (pa_cons pe_int pa_nil)) (pe_call G__write_base (hr.mono (by omega)) (by rfl) e.m__write_base e.k__write_base e.b__write_base .nil pass0 (pa_cons (pv 1) pa_nil))) pa_nil))) (pe_call G_write_record (hr.mono (by omega)) (by rfl) e.m_write_record e.k_write_record e.b_write_record .nil pass0 (pa_cons (pe_lst (pa_cons pe_int pa_nil)) pa_nil))))), ?_⟩
    refine enter (st_log_start _ _) ?_
    walk_at "i"
    walk_at "r"
    intro a1 H1 n1 k1 h1
    walk_at "r"
    refine ⟨t, rfl, lt60 ht, fun a2 H2 n2 k2 h2 => ?_⟩
    have h12 := k2.get h1 (by simp)
    walk_at "r"
    intro a3 H3 n3 k3 h3
    have h3' : H3 a3 = some (.lst (((1 : Int) :: wn t).map V.int)) := h3
    walk_at "r"
    refine ⟨a3, _, rfl, h3', by rw [List.length_cons]; omega, fun a4 H4 n4 k4 h4 => ?_⟩
    walk_at "r"
    intro a5 H5 n5 k5 h5
    have k15 := k1.trans (k2.trans (k3.trans (k4.trans k5)))
    have h45 := k5.get h4 (by simp)
    clear h1 h2 h12 h3 h3' h4
    walk_at "r"
    refine ⟨b, bs, rfl, hB.mono k15, h8, hc, hok, by omega, fun a6 H6 n6 k6 h6 => ?_⟩
    have h56 := k6.get h5 (by simp)
    walk_at "r"
    intro a7 H7 n7 k7 h7
    have h7' : H7 a7 = some (.lst (((3 : Int) :: wbs bs).map V.int)) := h7
    have h47 := (k6.trans k7).get h45 (by simp)
    clear h5 h6 h56 h45 h7
    walk_at "r"
    refine ⟨a7, _, rfl, h7', by rw [List.length_cons]; omega, fun a8 H8 n8 k8 h8' => ?_⟩
    have h48 := k8.get h47 (by simp)
    clear h47 h7'
    walk_at "r"
    intro a9 H9 n9 k9 h9
    walk_at "r"
    intro a10 H10 n10 k10 h10
    have h910 := k10.get h9 (by simp)
    clear h48 h8'
    walk_at "r"
    refine ⟨a10, [2], rfl, h10, by decide, fun a11 H11 n11 k11 h11 => ?_⟩
    have h911 := k11.get h910 (by simp)
    clear h9 h910 h10
    walk_at "r"
    intro a12 H12 n12 k12 h12
    have k := k15.trans (k6.trans (k7.trans (k8.trans (k9.trans (k10.trans k11)))))
    exact q a12 H12 (k.free n12 (by simp)) (k.trans k12) (by rw [h12]; simp [wlog])
def wnote (ts : List Tri) : List Int := My.rec (4 :: wts ts)
def sp_wnote : Sp := fun vs H Q _ => ∃ (a : Addr) (us : List V) (ts : List Tri), vs = [.ref a] ∧ H a = some (.lst us) ∧ vTs H ts us ∧ (∀ t ∈ ts, okt t) ∧ ts.length ≤ 1000 ∧ (wts ts).length ≤ 900000 ∧
  ∀ p H', H p = none → Keep [] H H' → H' p = some (.lst ((wnote ts).map V.int)) → Q (.ref p) H'
theorem ok_write_note (e : Env K mg A) : FnOk P w K mg base CX0 6 A.f_write_note A.d_write_note ["triples"] sp_wnote := by
  have G_write_record := ok_write_record (P := P) (w := w) (base := base) e
  have G_write_triples := ok_write_triples (P := P) (w := w) (base := base) e
  refine e.F_write_note.ok sc_write_note (fun vs H Q E h => ?_) (fun cdv AA outer s H vs Q E hr h => ?_)
  · obtain ⟨a, us, ts, rfl, _⟩ := h
    rfl
  · obtain ⟨a, us, ts, rfl, ha, hT, ho, htl, hsz, q⟩ := h
    refine ⟨_, (pss_one (ps_ret (pe_call G_write_record (hr.mono (by omega)) (by rfl) e.m_write_record e.k_write_record e.b_write_record .nil pass0 (pa_cons (pe_op op_cat (pe_lst (pa_cons pe_int pa_nil)) (pe_call G_write_triples (hr.mono (by omega)) (by rfl) e.m_write_triples e.k_write_triples e.b_write_triples .nil pass0 (pa_cons (pv 0) pa_nil))) pa_nil)))), ?_⟩
    refine enter (st_write_note _) ?_
    walk_at "i"
    walk_at "r"
    intro a1 H1 n1 k1 h1
    walk_at "r"
    refine ⟨a, us, ts, rfl, k1.get ha (by simp), vTs.keep hT k1, ho, htl, by omega, fun a2 H2 n2 k2 h2 => ?_⟩
    have h12 := k2.get h1 (by simp)
    walk_at "r"
    intro a3 H3 n3 k3 h3
    have h3' : H3 a3 = some (.lst (((4 : Int) :: wts ts).map V.int)) := h3
    walk_at "r"
    have k := k1.trans (k2.trans k3)
    exact ⟨a3, _, rfl, h3', by rw [List.length_cons]; omega, fun a4 H4 n4 k4 h4 => q a4 H4 (k.free n4 (by simp)) (k.trans k4) h4⟩
end My

end
section
set_option maxHeartbeats 4000000
local macro_rules | `(tactic| walk_at "k") => `(tactic| first
  | assumption
  | exact W.Keep.trans (by assumption) (by assumption)
  | exact And.intro (by grind [W.Keep, W.Kp]) (by grind [W.Keep, W.Kt])
  | grind [W.Keep, W.Kp])
local macro_rules | `(tactic| walk_at "f") => `(tactic| first
  | assumption
  | exact L2.SqL.of (by assumption)
  | exact L2.SqT.of (by assumption)
  | exact L2.SqL.of L2.upd_same
  | exact L2.SqT.of L2.upd_same
  | exact L2.upd_same
  | exact W.carryL (by assumption) (by assumption)
  | exact W.carryL (by assumption) (by walk_at "k")
  | exact W.carryT (by assumption) (by walk_at "k")
  | exact W.carry (by assumption) (by grind [W.Keep, W.Kp])
  | exact L2.SqL.of (W.carry (by assumption) (by grind [W.Keep, W.Kp]))
  | exact L2.SqT.of (W.carry (by assumption) (by grind [W.Keep, W.Kp])))
local macro_rules | `(tactic| walk_at "a") => `(tactic| first
  | assumption
  | rfl)
local macro_rules | `(tactic| walk_at "n") => `(tactic| first
  | assumption
  | exact Nat.zero_le _
  | decide
  | (simp only [List.length_cons, List.length_nil]; decide)
  | omega
  | (simp only [PySem.sizeLine_eq]; omega)
  | (simp only [List.length_map, List.length_append, List.length_cons, List.length_nil, PySem.sizeLine_eq]; omega)
  | (simp only [List.length_map, List.length_append, List.length_cons, List.length_nil, List.length_take, List.length_drop, PySem.sizeLine_eq]; omega)
  | (simp only [List.length_map, List.length_append, List.length_cons, List.length_nil, PySem.sizeLine_eq] at *; omega))
local macro_rules | `(tactic| walk_at "c") => `(tactic| first
  | assumption
  | decide
  | exact And.intro (by decide) (by decide)
  | exact Or.inr (And.intro (by decide) (by decide))
  | exact Or.inl (And.intro (by decide) (by decide))
  | exact And.intro (by decide) (And.intro (by decide) (by decide))
  | exact (show (0 : Int) < _ by decide)
  | exact And.intro (by omega) (by omega)
  | exact Or.inl (And.intro (by omega) (by omega))
  | exact Or.inr (And.intro (by omega) (by omega))
  | exact (show (0 : Int) < _ by omega))
local macro_rules | `(tactic| walk_at "v") => `(tactic| with_reducible first
  | refine W.v0 ?_ | refine W.v1 ?_ | refine W.v2 ?_ | refine W.v3 ?_ | refine W.v4 ?_ | refine W.v5 ?_ | refine W.v6 ?_ | refine W.v7 ?_ | refine W.v8 ?_
  | refine W.v9 ?_ | refine W.v10 ?_ | refine W.v11 ?_ | refine W.v12 ?_ | refine W.v13 ?_ | refine W.v14 ?_ | refine W.v15 ?_ | refine W.v16 ?_ | refine W.v17 ?_
  | refine W.g0 ?_ | refine W.g1 ?_ | refine W.g2 ?_ | refine W.g3 ?_ | refine W.g4 ?_ | refine W.g5 ?_ | refine W.g6 ?_ | refine W.g7 ?_ | refine W.g8 ?_
  | refine W.g9 ?_ | refine W.g10 ?_ | refine W.g11 ?_ | refine W.g12 ?_ | refine W.g13 ?_ | refine W.g14 ?_ | refine W.g15 ?_)
local macro_rules | `(tactic| walk_at "e") => `(tactic| with_reducible first
  | refine W.e_c ?_ | refine W.e_op ?_ | refine W.s_seq ?_ | refine W.s_asg ?_ | refine W.e_CB ?_ | refine W.a_cons ?_ | refine W.a_nil ?_ | refine W.e_call ?_
  | refine W.t_test ?_ | refine W.w_B ?_ | refine W.s_if ?_ | refine W.s_ret ?_ | refine W.s_drop ?_ | refine W.e_un ?_ | refine W.e_fld ?_ | refine W.s_fld ?_
  | refine W.e_meth ?_ | refine W.e_if ?_ | refine W.e_lst ?_ | refine W.e_tup ?_ | refine W.e_sl ?_ | refine W.o_none ?_ | refine W.o_some ?_ | refine W.w_part ?_
  | refine W.e_bm ?_ | refine W.e_bm0 ?_ | refine W.t_B ?_ | refine W.t_and ?_ | refine W.t_or ?_ | refine W.t_not ?_ | refine W.e_andV ?_ | refine W.e_orV ?_ | refine W.e_notV ?_ | refine W.w_BV ?_ | refine W.e_chain ?_
  | refine W.s_aug ?_ | refine W.s_augS ?_ | refine W.s_next ?_ | refine W.s_brk ?_ | refine W.s_cont ?_ | refine W.s_retN ?_ | refine W.s_fa ?_ | refine W.e_make ?_ | refine W.w_make ?_
  | refine W.w_I0 ?_ | refine W.w_U ?_ | refine W.w_aug ?_ | refine W.w_eqI ?_ | refine W.w_neI ?_ | refine W.w_eqS ?_ | refine W.w_neS ?_ | refine W.w_eqB ?_ | refine W.w_neB ?_
  | refine W.w_int ?_ | refine W.w_intB ?_ | refine W.w_min ?_ | refine W.w_max ?_ | refine W.w_isN ?_ | refine W.w_isI ?_ | refine W.w_isS ?_ | refine W.w_isB ?_ | refine W.w_isR ?_
  | refine W.w_notN ?_ | refine W.w_notI ?_ | refine W.w_notR ?_ | refine W.w_notS ?_ | refine W.w_eqNI ?_ | refine W.w_neNI ?_ | refine W.w_eqN ?_ | refine W.w_neN ?_
  | refine W.s_forL ?_ | refine W.s_forT ?_ | refine W.s_forS ?_ | refine W.s_forR1 ?_ | refine W.s_forR2 ?_ | refine W.s_forR3 ?_ | refine W.s_forZ ?_ | refine W.s_forE ?_
  | refine W.e_lcL ?_ | refine W.e_lcT ?_ | refine W.w_ord ?_ | refine W.e_lcR1 ?_ | refine W.e_lcR2 ?_ | refine W.e_lcZ ?_ | refine W.e_lcS ?_ | refine W.t_yes ?_ | refine W.w_gcons ?_ | refine W.w_gnil ?_ | refine W.s_par ?_ | refine W.w_par ?_ | refine W.g_sub ?_ | refine W.e_m1 ?_ | refine W.w_strR ?_ | refine W.w_rAdd ?_ | refine W.w_rSub ?_ | refine W.s_raise ?_ | refine W.s_try ?_ | refine W.e_methS ?_ | refine W.e_callS ?_)
local macro_rules | `(tactic| walk_at "w") => `(tactic| first
  | ((with_reducible refine' W.w_I ?wh ?wq); (case wh => walk_at "c"))
  | ((with_reducible refine' W.w_ixL (n := 0) ?wh ?we ?wq); (case wh => walk_at "f"); (case we => walk_at "a"))
  | ((with_reducible refine' W.w_ixT (n := 0) ?wh ?we ?wq); (case wh => walk_at "f"); (case we => walk_at "a"))
  | ((with_reducible refine' W.w_lenL ?wh ?wq); (case wh => walk_at "f"))
  | ((with_reducible refine' W.w_lenT ?wh ?wq); (case wh => walk_at "f"))
  | ((with_reducible refine' W.w_lenS ?wh ?wq); (case wh => walk_at "n"))
  | ((with_reducible refine' W.w_app ?wh ?we ?wq); (case wh => walk_at "f"); (case we => walk_at "n"))
  | ((with_reducible refine' W.w_meth ?wh ?we ?wq); (case wh => walk_at "f"); (case we => first | assumption | rfl))
  | ((with_reducible refine' W.w_ixLTl ?wh ?we ?wq); (case wh => walk_at "f"); (case we => walk_at "a"))
  | ((with_reducible refine' W.w_ixLTt ?wh ?we ?wq); (case wh => walk_at "f"); (case we => walk_at "a"))
  | ((with_reducible refine' W.w_addS ?wh ?wq); (case wh => walk_at "n"))
  | ((with_reducible refine' W.w_set ?wh ?we ?wq); (case wh => walk_at "f"); (case we => walk_at "a"))
  | ((with_reducible refine' W.w_tup ?wh ?we ?wq); (case wh => walk_at "f"); (case we => first | assumption | rfl))
  | ((with_reducible refine' W.w_slS ?wh ?wq); (case wh => walk_at "n"))
  | ((with_reducible refine' W.w_rApp ?wh ?we ?wq); (case wh => walk_at "f"); (case we => walk_at "n"))
  | ((with_reducible refine' W.w_newL ?wh ?wq); (case wh => walk_at "n"))
  | ((with_reducible refine' W.w_newT ?wh ?wq); (case wh => walk_at "n"))
  | ((with_reducible refine' W.w_listL ?wh ?wq); (case wh => walk_at "f"))
  | ((with_reducible refine' W.w_tupL ?wh ?wq); (case wh => walk_at "f"))
  | ((with_reducible refine' W.w_slL ?wh ?wq); (case wh => walk_at "f"))
  | ((with_reducible refine' W.w_cat ?wh ?wf ?we ?wq); (case wh => walk_at "f"); (case wf => walk_at "f"); (case we => walk_at "n"))
  | ((with_reducible refine' W.w_catT ?wh ?wf ?wx ?wy ?we ?wq); (case wh => walk_at "f"); (case wf => walk_at "f"); (case wx => exact List.cons_ne_nil _ _); (case wy => exact List.cons_ne_nil _ _); (case we => walk_at "n"))
  | ((with_reducible refine' W.w_ext ?wh ?wf ?we ?wq); (case wh => walk_at "f"); (case wf => walk_at "f"); (case we => walk_at "n"))
  | ((with_reducible refine' W.w_recv ?wh ?wq); (case wh => walk_at "f"))
  | ((with_reducible refine' W.w_isi1 ?wh ?we ?wq); (case wh => assumption); (case we => decide +kernel))
  | ((with_reducible refine' W.w_isi0 ?wh ?we ?wq); (case wh => assumption); (case we => decide +kernel))
  | ((with_reducible refine' W.w_isiT10 ?wh ?wf ?we ?wg ?wq); (case wh => assumption); (case wf => walk_at "f"); (case we => decide +kernel); (case wg => decide +kernel))
  | ((with_reducible refine' W.w_isiT01 ?wh ?wf ?we ?wg ?wq); (case wh => assumption); (case wf => walk_at "f"); (case we => decide +kernel); (case wg => decide +kernel))
  | ((with_reducible refine' W.w_isiT00 ?wh ?wf ?we ?wg ?wq); (case wh => assumption); (case wf => walk_at "f"); (case we => decide +kernel); (case wg => decide +kernel))
  | ((with_reducible refine' W.w_ins ?wh ?we ?wf ?wq); (case wh => walk_at "f"); (case we => walk_at "n"); (case wf => walk_at "c"))
  | ((with_reducible refine' W.w_unl ?wh ?we ?wq); (case wh => walk_at "f"); (case we => first | assumption | rfl))
  | ((with_reducible refine' W.ite_T ?_))
  | ((with_reducible refine' W.ite_F ?_))
  | ((with_reducible refine' W.ite_nT ?_))
  | ((with_reducible refine' W.ite_nF ?_))
  | ((with_reducible refine' W.ite_self ?_))
  | ((with_reducible refine' W.ite_nself ?_))
  | ((with_reducible refine' W.ite_tf ?_))
  | ((with_reducible refine' W.ite_ft ?_))
  | ((with_reducible refine' W.ite_ntf ?_))
  | ((with_reducible refine' W.ite_nft ?_))
  | ((with_reducible refine' And.intro ?wl ?wq); (case wl => rfl)))
local macro_rules | `(tactic| walk_at "i") => `(tactic| try (dsimp only [L2.cxOf, L2.wipe, List.map, List.set]))
local macro_rules | `(tactic| walk_at "s") => `(tactic| first | walk_at "v" | walk_at "e" | walk_at "w")
local macro_rules | `(tactic| walk_at "r") => `(tactic| repeat walk_at "s")

namespace My
open PySem L2 W
local macro_rules | `(tactic| walk_at "w") => `(tactic| first
  | ((with_reducible refine' W.w_getF ?wh ?wc ?wn ?wl ?wq); (case wh => walk_at "f"); (case wc => first | exact Env.c_Deeds (by assumption) | exact Env.c_Base (by assumption) | exact Env.c_Reader (by assumption)); (case wn => first | exact Env.x_Deeds_rows (by assumption) | exact Env.x_Base_commits (by assumption) | exact Env.x_Base_deeds (by assumption) | exact Env.x_Reader_data (by assumption) | exact Env.x_Reader_at (by assumption)); (case wl => first | exact lkD | exact lkB1 | exact lkB2 | exact lk1 | exact lk2))
  | ((with_reducible refine' W.w_setF ?wh ?wc ?wn ?wl ?wq); (case wh => walk_at "f"); (case wc => first | exact Env.c_Deeds (by assumption) | exact Env.c_Base (by assumption)); (case wn => first | exact Env.x_Deeds_rows (by assumption) | exact Env.x_Base_commits (by assumption) | exact Env.x_Base_deeds (by assumption)); (case wl => first | exact (show 0 < 1000 by decide) | exact (show 1 < 1000 by decide) | exact (show 2 < 1000 by decide) | exact Nat.lt_of_le_of_lt (length_putF _ _ _) (show 1 < 1000 by decide))))
variable {P : Program} {w : World} {K : PySem.W.Frag} {mg : Str → Option Value} {base : Heap} {A : Adr}
theorem phead_no {α : Type} {k : Int} {P : Rdr α} {ds : List Int} (h : ¬ 0 < ds.length) : phead k P ds = none := by unfold phead; rw [pbyte_no h]; rfl
theorem phead_ne {α : Type} {k : Int} {P : Rdr α} {ds : List Int} (h : 0 < ds.length) (hb : ¬ ds.getD 0 0 = k) : phead k P ds = none := by unfold phead; rw [pbyte_yes h]; simp only [Option.bind_some]; rw [if_neg hb]
theorem phead_yes {α : Type} {k : Int} {P : Rdr α} {ds : List Int} (h : 0 < ds.length) (hb : ds.getD 0 0 = k) : phead k P ds = pend ds (P ds (0 + 1)) := by unfold phead; rw [pbyte_yes h]; simp only [Option.bind_some]; rw [if_pos hb]
theorem pend_more {α : Type} {ds : List Int} {z : Option (α × Nat)} {a : α} {q : Nat} (h : z = some (a, q)) (hq : q < ds.length) : pend ds z = none := by subst h; unfold pend; simp only [Option.bind_some]; rw [if_pos hq]
theorem pend_all {α : Type} {ds : List Int} {z : Option (α × Nat)} {a : α} {q : Nat} (h : z = some (a, q)) (hq : ¬ q < ds.length) : pend ds z = some a := by subst h; unfold pend; simp only [Option.bind_some]; rw [if_neg hq]
theorem pend_no {α : Type} {ds : List Int} {z : Option (α × Nat)} (h : z = none) : pend ds z = none := by subst h; rfl
theorem phead_some {α : Type} {k : Int} {P : Rdr α} {ds : List Int} {a : α} (h : phead k P ds = some a) : ∃ q, P ds (0 + 1) = some (a, q) := by
  by_cases h0 : 0 < ds.length
  · by_cases hb : ds.getD 0 0 = k
    · rw [phead_yes h0 hb] at h
      cases hz : P ds (0 + 1) with
      | none => rw [pend_no hz] at h; cases h
      | some z =>
        by_cases hq : z.2 < ds.length
        · rw [pend_more (q := z.2) hz hq] at h; cases h
        · rw [pend_all (q := z.2) hz hq] at h; cases h; exact ⟨z.2, rfl⟩
    · rw [phead_ne h0 hb] at h; cases h
  · rw [phead_no h0] at h; cases h
theorem nxs_bound {ts : List Tri} : ∀ {rows r : Rws} {M : Nat}, nxs rows ts = some r → (∀ row ∈ rows, row.length ≤ M) → ∀ row ∈ r, row.length ≤ M + ts.length := by
  induction ts with
  | nil => intro rows r M h hM row hr; cases h; exact hM row hr
  | cons t ts ih =>
    intro rows r M h hM row hr
    have h : (nx1 rows t).bind (fun r => nxs r ts) = some r := h
    cases hn : nx1 rows t with
    | none => rw [hn] at h; cases h
    | some z =>
      rw [hn] at h
      have h1 := ih (rows := z) (M := M + 1) h (fun row hrow => ?_) row hr
      · rw [List.length_cons]; omega
      · unfold nx1 at hn
        split at hn
        · rename_i hc
          cases hn
          rcases List.mem_or_eq_of_mem_set hrow with hm | he
          · have := hM row hm; omega
          · rw [he, List.length_append, List.length_singleton]
            have : (rows.getD t.r []).length ≤ M := by
              by_cases hl : t.r < rows.length
              · rw [List.getD_eq_getElem?_getD, List.getElem?_eq_getElem hl]
                exact hM _ (List.getElem_mem hl)
              · rw [List.getD_eq_getElem?_getD, List.getElem?_eq_none (by omega)]; exact Nat.zero_le _
            omega
        · cases hn
theorem prows_ok {ds : List Int} {p q : Nat} {rows : Rws} (h : prows ds p = some (rows, q)) : rows.length = 8 ∧ ∀ row ∈ rows, row.length ≤ ds.length := by
  refine ⟨pmany_len _ h, fun row hr => ?_⟩
  obtain ⟨p', q', hf⟩ := pmany_mem _ h row hr
  exact plist_len (P := pdd) hf
theorem pbase_ok {ds : List Int} {bs : Bs} (h : pbase ds = some bs) : bs.2.length = 8 ∧ ∀ row ∈ bs.2, row.length ≤ ds.length := by
  obtain ⟨q, h⟩ := phead_some h
  unfold pbs at h
  simp only [Option.bind_eq_some_iff, Option.map_eq_some_iff] at h
  obtain ⟨n, _, r, hr, e⟩ := h
  have e1 := congrArg (fun z => z.1.2) e
  simp only at e1
  rw [← e1]
  exact prows_ok (q := r.2) hr
theorem pnote_ok {ds : List Int} {ts : List Tri} (h : pnote ds = some ts) : ts.length ≤ ds.length := by
  obtain ⟨q, h⟩ := phead_some h
  exact plist_len h
theorem note1_ok {b b' : Bs} {rec : List Int} {M : Nat} (h : note1 b rec = some b') (h8 : b.2.length = 8) (hM : ∀ row ∈ b.2, row.length ≤ M) : b'.2.length = 8 ∧ ∀ row ∈ b'.2, row.length ≤ M + rec.length := by
  unfold note1 at h
  simp only [Option.bind_eq_some_iff, Option.map_eq_some_iff] at h
  obtain ⟨ts, hts, rows, hr, e⟩ := h
  subst e
  refine ⟨by rw [nxs_len hr, h8], fun row hrow => ?_⟩
  have := nxs_bound hr hM row hrow
  have := pnote_ok hts
  omega
def sp_rturn (A : Adr) : Sp := fun vs H Q E => ∃ (a : Addr) (ds : List Int), vs = [.ref a] ∧ H a = some (.lst (ds.map V.int)) ∧ ds.length ≤ 1000000 ∧
  (∀ t, pturn ds = some t → ∀ H', Keep [] H H' → Q (.int (t : Int)) H') ∧ (pturn ds = none → ∀ H', Keep [] H H' → E (.ref A.C_DamagedPacket) none H')
theorem ok__read_turn (e : Env K mg A) : FnOk P w K mg base (L2.CX P w) 3 A.f__read_turn A.d__read_turn ["record"] (sp_rturn A) := by
  have G_Reader___init__ := ok_Reader___init__ (P := P) (w := w) (base := base) e
  have G_Reader_read_byte := ok_Reader_read_byte (P := P) (w := w) (base := base) e
  have G_Reader_read_number := ok_Reader_read_number (P := P) (w := w) (base := base) e
  have G_Reader_end := ok_Reader_end (P := P) (w := w) (base := base) e
  refine e.F__read_turn.okX sc__read_turn (fun vs H Q E h => ?_) (fun cdv AA outer s H vs Q E hr h => ?_)
  · obtain ⟨a, ds, rfl, _⟩ := h
    rfl
  · obtain ⟨a, ds, rfl, ha, hl, q1, q2⟩ := h
    refine ⟨_, (pss_cons (ps_set (i := 1) sc__read_turn.nd rfl (Or.inl rfl) (pe_make e.M_Reader G_Reader___init__ (hr.mono (by omega)) (by rfl) e.m_Reader e.b_Reader___init__ .nil pass0 (pa_cons (pv 0) pa_nil)))
    (pss_cons (ps_if (pt_cmpR op_ne (pe_meth0 (pv 1) e.c_Reader e.h_Reader_read_byte G_Reader_read_byte (hr.mono (by omega)) e.b_Reader_read_byte .nil (passes_call (takes_of rfl rfl rfl rfl) (fun _ _ _ _ h => h))) pe_int (nomark _)) (pss_one (ps_raise1 rfl (takes_of rfl rfl rfl rfl) PySem.F.excBase_ValueError e.xx_DamagedPacket e.m_DamagedPacket e.kk_DamagedPacket (raises_own e.bb_DamagedPacket e.tt_DamagedPacket) (by rfl))) pss_nil)
    (pss_cons (ps_set (i := 2) sc__read_turn.nd rfl (Or.inl rfl) (pe_meth0 (pv 1) e.c_Reader e.h_Reader_read_number G_Reader_read_number (hr.mono (by omega)) e.b_Reader_read_number .nil (passes_call (takes_of rfl rfl rfl rfl) (fun _ _ _ _ h => h))))
    (pss_cons (ps_expr (pe_meth0 (pv 1) e.c_Reader e.h_Reader_end G_Reader_end (hr.mono (by omega)) e.b_Reader_end .nil (passes_call (takes_of rfl rfl rfl rfl) (fun _ _ _ _ h => h))))
    (pss_one (ps_ret (pv 2))))))), ?_⟩
    refine enter (st__read_turn _) ?_
    walk_at "i"
    walk_at "r"
    intro r dx H1 nr k1 hr1
    refine ⟨r, dx, a, ds, rfl, hr1, k1.get ha (by simp), fun d H2 nd k2 R2 => ⟨rfl, ?_⟩⟩
    have k12 : Keep [] H H2 := k1.mut nr k2
    have hr2 := R2.1
    have hlk0 : (rdF d 0).lookup ("read_byte" : Str) = none := lkn (by decide +kernel) (by decide +kernel)
    clear k1 k2 hr1
    walk_at "r"
    refine ⟨r, dx, d, ds, 0, rfl, R2, fun hp H3 k3 R3 => ?_, fun hp => q2 (phead_no hp) H2 k12⟩
    walk_at "r"
    refine ite_ndec (fun h1 => ?_) (fun h1 => ?_)
    · walk_at "r"
      exact q2 (phead_ne hp h1) H3 (k12.mut nr k3)
    have e1 : pturn ds = pend ds (pnum ds (0 + 1)) := phead_yes hp h1
    have hr3 := R3.1
    have hlk1 : (rdF d (0 + 1)).lookup ("read_number" : Str) = none := lkn (by decide +kernel) (by decide +kernel)
    clear hr2
    walk_at "r"
    refine ⟨r, dx, d, ds, 0 + 1, rfl, R3, hl, fun n p hn v H4 k4 R4 hv => ?_, fun hn H4 k4 => q2 (by rw [e1]; exact pend_no hn) H4 (k12.mut nr (k3.trans k4))⟩
    cases hv
    have hr4 := R4.1
    have hlk2 : (rdF d p).lookup ("end" : Str) = none := lkn (by decide +kernel) (by decide +kernel)
    have k14 : Keep [] H H4 := k12.mut nr (k3.trans k4)
    clear hr3
    walk_at "r"
    refine ⟨r, dx, d, ds, p, rfl, R4, fun he => ?_, fun he => q2 (by rw [e1]; exact pend_more hn he) H4 k14⟩
    walk_at "r"
    exact q1 n (by rw [e1]; exact pend_all hn he) H4 k14
def sp_rbase (A : Adr) : Sp := fun vs H Q E => ∃ (a : Addr) (ds : List Int), vs = [.ref a] ∧ H a = some (.lst (ds.map V.int)) ∧ ds.length ≤ 1000000 ∧
  (∀ bs, pbase ds = some bs → ∀ b H', Keep [] H H' → BaN H A H' b bs → Q (.ref b) H') ∧ (pbase ds = none → ∀ H', Keep [] H H' → E (.ref A.C_DamagedPacket) none H')
theorem ok__read_base (e : Env K mg A) : FnOk P w K mg base (L2.CX P w) 7 A.f__read_base A.d__read_base ["record"] (sp_rbase A) := by
  have G_Reader___init__ := ok_Reader___init__ (P := P) (w := w) (base := base) e
  have G_Reader_read_byte := ok_Reader_read_byte (P := P) (w := w) (base := base) e
  have G_Reader_read_number := ok_Reader_read_number (P := P) (w := w) (base := base) e
  have G_Reader_read_deeds := ok_Reader_read_deeds (P := P) (w := w) (base := base) e
  have G_Reader_end := ok_Reader_end (P := P) (w := w) (base := base) e
  have G_Base___init__ := ok_Base___init__ (P := P) (w := w) (base := base) e
  refine e.F__read_base.okX sc__read_base (fun vs H Q E h => ?_) (fun cdv AA outer s H vs Q E hr h => ?_)
  · obtain ⟨a, ds, rfl, _⟩ := h
    rfl
  · obtain ⟨a, ds, rfl, ha, hl, q1, q2⟩ := h
    refine ⟨_, (pss_cons (ps_set (i := 1) sc__read_base.nd rfl (Or.inr rfl) (pe_make e.M_Reader G_Reader___init__ (hr.mono (by omega)) (by rfl) e.m_Reader e.b_Reader___init__ .nil pass0 (pa_cons (pv 0) pa_nil)))
    (pss_cons (ps_if (pt_cmpR op_ne (pe_meth0 (pv 1) e.c_Reader e.h_Reader_read_byte G_Reader_read_byte (hr.mono (by omega)) e.b_Reader_read_byte .nil (passes_call (takes_of rfl rfl rfl rfl) (fun _ _ _ _ h => h))) pe_int (nomark _)) (pss_one (ps_raise1 rfl (takes_of rfl rfl rfl rfl) PySem.F.excBase_ValueError e.xx_DamagedPacket e.m_DamagedPacket e.kk_DamagedPacket (raises_own e.bb_DamagedPacket e.tt_DamagedPacket) (by rfl))) pss_nil)
    (pss_cons (ps_set (i := 2) sc__read_base.nd rfl (Or.inl rfl) (pe_make0 e.M_Base G_Base___init__ (hr.mono (by omega)) (by rfl) e.m_Base e.b_Base___init__ .nil pass0))
    (pss_cons (ps_fldK (K := K) (pv 2) (pe_meth0 (pv 1) e.c_Reader e.h_Reader_read_number G_Reader_read_number (hr.mono (by omega)) e.b_Reader_read_number .nil (passes_call (takes_of rfl rfl rfl rfl) (fun _ _ _ _ h => h))) rfl)
    (pss_cons (ps_fldK (K := K) (pe_fldK (K := K) (pv 2) rfl) (pe_lcX (own := [("_", 3)]) rfl rfl (takes_of rfl rfl rfl rfl) (by rfl) sc__read_base.nd (pi_range1 rfl e.n_range (pa_cons (pe_glob (by rfl) e.m_REPLICAS e.r_REPLICAS) pa_nil)) (blkOk_by (own := [("_", 3)]) (N := nm__read_base) (sc := defScope s__read_base) (by decide +kernel)) (fun _ _ _ _ _ => (pg_name (i := 3) sc__read_base.nd rfl (Or.inl rfl))) (fun _ _ _ _ _ => pts_nil) (fun _ _ _ _ _ xe tkx => (pe_meth0 (pv 1) e.c_Reader e.h_Reader_read_deeds G_Reader_read_deeds (hr.mono (by omega)) e.b_Reader_read_deeds .nil (passes_call tkx (fun _ _ _ _ h => h))))) rfl)
    (pss_cons (ps_expr (pe_meth0 (pv 1) e.c_Reader e.h_Reader_end G_Reader_end (hr.mono (by omega)) e.b_Reader_end .nil (passes_call (takes_of rfl rfl rfl rfl) (fun _ _ _ _ h => h))))
    (pss_one (ps_ret (pv 2))))))))), ?_⟩
    refine enter (st__read_base _) ?_
    walk_at "i"
    walk_at "r"
    intro r dx H1 nr k1 hr1
    refine ⟨r, dx, a, ds, rfl, hr1, k1.get ha (by simp), fun d H2 nd k2 R2 => ⟨rfl, ?_⟩⟩
    have k12 : Keep [] H H2 := k1.mut nr k2
    have hr2 := R2.1
    have hlk0 : (rdF d 0).lookup ("read_byte" : Str) = none := lkn (by decide +kernel) (by decide +kernel)
    clear k1 k2 hr1
    walk_at "r"
    refine ⟨r, dx, d, ds, 0, rfl, R2, fun hp H3 k3 R3 => ?_, fun hp => q2 (phead_no hp) H2 k12⟩
    have k13 : Keep [] H H3 := k12.mut nr k3
    walk_at "r"
    refine ite_ndec (fun h1 => ?_) (fun h1 => ?_)
    · walk_at "r"
      exact q2 (phead_ne hp h1) H3 k13
    have e1 : pbase ds = pend ds (pbs ds (0 + 1)) := phead_yes hp h1
    clear hr2 k3 k12
    walk_at "r"
    intro b dxb H4 nb k4 hb4
    refine ⟨b, dxb, rfl, hb4, fun dd H5 k5 hb5 hD5 => ⟨rfl, ?_⟩⟩
    have k35 : Keep [] H3 H5 := k4.mut nb k5
    have R5 := R3.keep k35 (by simp) (by simp)
    have hr5 := R5.1
    have nbr : b ≠ r := Ne.symm (ne_of_none R3.1 nb)
    have nbd : b ≠ d := Ne.symm (ne_of_none R3.2 nb)
    have nb0 : H b = none := k13.free nb (by simp)
    have hD5' := hD5.back (k13.trans k4)
    have ndd : dd ≠ b := by obtain ⟨_, _, _, _, h⟩ := hD5; exact Ne.symm (ne_of_none hb4 h)
    have ndr : dd ≠ r := by obtain ⟨_, _, _, _, h⟩ := hD5; exact Ne.symm (ne_of_none (k4.get R3.1 (by simp)) h)
    have k15 : Keep [] H H5 := k13.trans k35
    have hlk1 : (rdF d (0 + 1)).lookup ("read_number" : Str) = none := lkn (by decide +kernel) (by decide +kernel)
    clear k4 k5 hb4 hD5 k35 k13 R3
    walk_at "r"
    refine ⟨r, dx, d, ds, 0 + 1, rfl, R5, hl, fun n p hn v H6 k6 R6 hv => ?_, fun hn H6 k6 => q2 (by rw [e1]; exact pend_no (by unfold pbs; rw [hn]; rfl)) H6 (k15.mut nr k6)⟩
    cases hv
    have e2 : pbs ds (0 + 1) = (prows ds p).map fun r => ((n, r.1), r.2) := by unfold pbs; rw [hn]; rfl
    have hb6 := k6.get hb5 (by simp [nbr])
    have hD6 := hD5'.keepI hr5 k6 ndr
    walk_at "r"
    intro H7 k7 hb7
    rw [show (0 : Nat) = 0 from rfl] at hb7
    rw [pfB1] at hb7
    have R7 := R6.keep k7 (by simp [Ne.symm nbr]) (by simp [Ne.symm nbd])
    have hr7 := R7.1
    have hD7 := hD6.keepI hb6 k7 ndd
    have k17 : Keep [] H H7 := (k15.mut nr k6).mut nb0 k7
    clear k6 k7 hb6 hb5 hD5' hD6 R6 hr5 R5 k15
    walk_at "r"
    refine lcR1 (by omega) (by omega) (fun D i H' => ∃ rows q', Keep [r] H7 H' ∧ RdAt A.C_Reader H' r dx d ds q' ∧ pmany (pdeeds ds) i p = some (rows, q') ∧ RowsN H H' D rows ∧ H D = none)
      (fun D H8 nD k8 hD => ⟨[], p, k8.any, R7.keep k8 (by simp) (by simp), rfl, RowsN.start (k17.free nD (by simp)) hD, k17.free nD (by simp)⟩) ?_ ?_
    · rintro D i H8 nD hi ⟨rows, q', k8, R8, hm, hR, nD0⟩
      obtain ⟨us, hD⟩ : ∃ us, H8 D = some (.lst us) := by obtain ⟨ts, h, _⟩ := hR; exact ⟨_, h⟩
      have hul := hR.len hD
      have hrl := pmany_len _ hm
      have hr8 := R8.1
      have nDr : D ≠ r := Ne.symm (ne_of_none hr7 nD)
      have nDd : D ≠ d := Ne.symm (ne_of_none R7.2 nD)
      have hlk : (rdF d q').lookup ("read_deeds" : Str) = none := lkn (by decide +kernel) (by decide +kernel)
      walk_at "i"
      walk_at "r"
      refine ⟨r, dx, d, ds, q', rfl, R8, hl, fun row q2' hrow a2 H9 na k9 R9 hRow => ?_, fun hrow H9 k9 => q2 (by rw [e1]; exact pend_no (by rw [e2]; unfold prows; rw [pmany_stop (pdeeds ds) hm hrow (by omega)]; rfl)) H9 (k17.mut nr (k8.trans k9))⟩
      have hD9 := k9.get hD (by simp [nDr])
      have na0 : H a2 = none := (k17.mut nr k8).free na (by simp)
      walk_at "r"
      intro H10 k10 h10
      exact ⟨rows ++ [row], q2', (k8.trans k9).mut nD k10, R9.keep k10 (by simp [Ne.symm nDr]) (by simp [Ne.symm nDd]), pmany_step _ hm hrow, hR.pushI na0 hr8 hD na k9 hRow k10 h10, nD0⟩
    · rintro D H8 nD ⟨rows, q', k8, R8, hm, hR, nD0⟩
      have hm : prows ds p = some (rows, q') := hm
      have hb8 := k8.get hb7 (by simp [nbr])
      have hD8 := hD7.keepI hr7 k8 ndr
      obtain ⟨dxd, rs0, hdd8, _, ndd0⟩ := hD8
      have hr8 := R8.1
      clear hD7 hb7 hr7
      walk_at "r"
      intro H9 k9 h9
      rw [pfD] at h9
      have R9 := R8.keep k9 (by simp [Ne.symm ndr]) (by
        intro z
        rw [List.mem_singleton] at z
        subst z
        rw [R8.2] at hdd8; cases hdd8)
      have hr9 := R9.1
      have hb9 := k9.get hb8 (by simp [Ne.symm ndd])
      have hR9 := hR.keepI hdd8 k9
      have k19 : Keep [] H H9 := (k17.mut nr k8).mut ndd0 k9
      have hlk : (rdF d q').lookup ("end" : Str) = none := lkn (by decide +kernel) (by decide +kernel)
      have e3 : pbs ds (0 + 1) = some ((n, rows), q') := by rw [e2, hm]; rfl
      clear hr8 hb8 hR
      walk_at "r"
      refine ⟨r, dx, d, ds, q', rfl, R9, fun he => ?_, fun he => q2 (by rw [e1]; exact pend_more e3 he) H9 k19⟩
      walk_at "r"
      exact q1 (n, rows) (by rw [e1]; exact pend_all e3 he) b H9 k19 ⟨dxb, dd, hb9, ⟨dxd, D, h9, hR9, ndd0⟩, nb0, ndd⟩
end My

end
section
set_option maxHeartbeats 4000000
local macro_rules | `(tactic| walk_at "k") => `(tactic| first
  | assumption
  | exact W.Keep.trans (by assumption) (by assumption)
  | exact And.intro (by grind [W.Keep, W.Kp]) (by grind [W.Keep, W.Kt])
  | grind [W.Keep, W.Kp])
local macro_rules | `(tactic| walk_at "f") => `(tactic| first
  | assumption
  | exact L2.SqL.of (by assumption)
  | exact L2.SqT.of (by assumption)
  | exact L2.SqL.of L2.upd_same
  | exact L2.SqT.of L2.upd_same
  | exact L2.upd_same
  | exact W.carryL (by assumption) (by assumption)
  | exact W.carryL (by assumption) (by walk_at "k")
  | exact W.carryT (by assumption) (by walk_at "k")
  | exact W.carry (by assumption) (by grind [W.Keep, W.Kp])
  | exact L2.SqL.of (W.carry (by assumption) (by grind [W.Keep, W.Kp]))
  | exact L2.SqT.of (W.carry (by assumption) (by grind [W.Keep, W.Kp])))
local macro_rules | `(tactic| walk_at "a") => `(tactic| first
  | assumption
  | rfl)
local macro_rules | `(tactic| walk_at "n") => `(tactic| first
  | assumption
  | exact Nat.zero_le _
  | decide
  | (simp only [List.length_cons, List.length_nil]; decide)
  | omega
  | (simp only [PySem.sizeLine_eq]; omega)
  | (simp only [List.length_map, List.length_append, List.length_cons, List.length_nil, PySem.sizeLine_eq]; omega)
  | (simp only [List.length_map, List.length_append, List.length_cons, List.length_nil, List.length_take, List.length_drop, PySem.sizeLine_eq]; omega)
  | (simp only [List.length_map, List.length_append, List.length_cons, List.length_nil, PySem.sizeLine_eq] at *; omega))
local macro_rules | `(tactic| walk_at "c") => `(tactic| first
  | assumption
  | decide
  | exact And.intro (by decide) (by decide)
  | exact Or.inr (And.intro (by decide) (by decide))
  | exact Or.inl (And.intro (by decide) (by decide))
  | exact And.intro (by decide) (And.intro (by decide) (by decide))
  | exact (show (0 : Int) < _ by decide)
  | exact And.intro (by omega) (by omega)
  | exact Or.inl (And.intro (by omega) (by omega))
  | exact Or.inr (And.intro (by omega) (by omega))
  | exact (show (0 : Int) < _ by omega))
local macro_rules | `(tactic| walk_at "v") => `(tactic| with_reducible first
  | refine W.v0 ?_ | refine W.v1 ?_ | refine W.v2 ?_ | refine W.v3 ?_ | refine W.v4 ?_ | refine W.v5 ?_ | refine W.v6 ?_ | refine W.v7 ?_ | refine W.v8 ?_
  | refine W.v9 ?_ | refine W.v10 ?_ | refine W.v11 ?_ | refine W.v12 ?_ | refine W.v13 ?_ | refine W.v14 ?_ | refine W.v15 ?_ | refine W.v16 ?_ | refine W.v17 ?_
  | refine W.g0 ?_ | refine W.g1 ?_ | refine W.g2 ?_ | refine W.g3 ?_ | refine W.g4 ?_ | refine W.g5 ?_ | refine W.g6 ?_ | refine W.g7 ?_ | refine W.g8 ?_
  | refine W.g9 ?_ | refine W.g10 ?_ | refine W.g11 ?_ | refine W.g12 ?_ | refine W.g13 ?_ | refine W.g14 ?_ | refine W.g15 ?_)
local macro_rules | `(tactic| walk_at "e") => `(tactic| with_reducible first
  | refine W.e_c ?_ | refine W.e_op ?_ | refine W.s_seq ?_ | refine W.s_asg ?_ | refine W.e_CB ?_ | refine W.a_cons ?_ | refine W.a_nil ?_ | refine W.e_call ?_
  | refine W.t_test ?_ | refine W.w_B ?_ | refine W.s_if ?_ | refine W.s_ret ?_ | refine W.s_drop ?_ | refine W.e_un ?_ | refine W.e_fld ?_ | refine W.s_fld ?_
  | refine W.e_meth ?_ | refine W.e_if ?_ | refine W.e_lst ?_ | refine W.e_tup ?_ | refine W.e_sl ?_ | refine W.o_none ?_ | refine W.o_some ?_ | refine W.w_part ?_
  | refine W.e_bm ?_ | refine W.e_bm0 ?_ | refine W.t_B ?_ | refine W.t_and ?_ | refine W.t_or ?_ | refine W.t_not ?_ | refine W.e_andV ?_ | refine W.e_orV ?_ | refine W.e_notV ?_ | refine W.w_BV ?_ | refine W.e_chain ?_
  | refine W.s_aug ?_ | refine W.s_augS ?_ | refine W.s_next ?_ | refine W.s_brk ?_ | refine W.s_cont ?_ | refine W.s_retN ?_ | refine W.s_fa ?_ | refine W.e_make ?_ | refine W.w_make ?_
  | refine W.w_I0 ?_ | refine W.w_U ?_ | refine W.w_aug ?_ | refine W.w_eqI ?_ | refine W.w_neI ?_ | refine W.w_eqS ?_ | refine W.w_neS ?_ | refine W.w_eqB ?_ | refine W.w_neB ?_
  | refine W.w_int ?_ | refine W.w_intB ?_ | refine W.w_min ?_ | refine W.w_max ?_ | refine W.w_isN ?_ | refine W.w_isI ?_ | refine W.w_isS ?_ | refine W.w_isB ?_ | refine W.w_isR ?_
  | refine W.w_notN ?_ | refine W.w_notI ?_ | refine W.w_notR ?_ | refine W.w_notS ?_ | refine W.w_eqNI ?_ | refine W.w_neNI ?_ | refine W.w_eqN ?_ | refine W.w_neN ?_
  | refine W.s_forL ?_ | refine W.s_forT ?_ | refine W.s_forS ?_ | refine W.s_forR1 ?_ | refine W.s_forR2 ?_ | refine W.s_forR3 ?_ | refine W.s_forZ ?_ | refine W.s_forE ?_
  | refine W.e_lcL ?_ | refine W.e_lcT ?_ | refine W.w_ord ?_ | refine W.e_lcR1 ?_ | refine W.e_lcR2 ?_ | refine W.e_lcZ ?_ | refine W.e_lcS ?_ | refine W.t_yes ?_ | refine W.w_gcons ?_ | refine W.w_gnil ?_ | refine W.s_par ?_ | refine W.w_par ?_ | refine W.g_sub ?_ | refine W.e_m1 ?_ | refine W.w_strR ?_ | refine W.w_rAdd ?_ | refine W.w_rSub ?_ | refine W.s_raise ?_ | refine W.s_try ?_ | refine W.e_methS ?_ | refine W.e_callS ?_)
local macro_rules | `(tactic| walk_at "w") => `(tactic| first
  | ((with_reducible refine' W.w_I ?wh ?wq); (case wh => walk_at "c"))
  | ((with_reducible refine' W.w_ixL (n := 0) ?wh ?we ?wq); (case wh => walk_at "f"); (case we => walk_at "a"))
  | ((with_reducible refine' W.w_ixT (n := 0) ?wh ?we ?wq); (case wh => walk_at "f"); (case we => walk_at "a"))
  | ((with_reducible refine' W.w_lenL ?wh ?wq); (case wh => walk_at "f"))
  | ((with_reducible refine' W.w_lenT ?wh ?wq); (case wh => walk_at "f"))
  | ((with_reducible refine' W.w_lenS ?wh ?wq); (case wh => walk_at "n"))
  | ((with_reducible refine' W.w_app ?wh ?we ?wq); (case wh => walk_at "f"); (case we => walk_at "n"))
  | ((with_reducible refine' W.w_meth ?wh ?we ?wq); (case wh => walk_at "f"); (case we => first | assumption | rfl))
  | ((with_reducible refine' W.w_ixLTl ?wh ?we ?wq); (case wh => walk_at "f"); (case we => walk_at "a"))
  | ((with_reducible refine' W.w_ixLTt ?wh ?we ?wq); (case wh => walk_at "f"); (case we => walk_at "a"))
  | ((with_reducible refine' W.w_addS ?wh ?wq); (case wh => walk_at "n"))
  | ((with_reducible refine' W.w_set ?wh ?we ?wq); (case wh => walk_at "f"); (case we => walk_at "a"))
  | ((with_reducible refine' W.w_tup ?wh ?we ?wq); (case wh => walk_at "f"); (case we => first | assumption | rfl))
  | ((with_reducible refine' W.w_slS ?wh ?wq); (case wh => walk_at "n"))
  | ((with_reducible refine' W.w_rApp ?wh ?we ?wq); (case wh => walk_at "f"); (case we => walk_at "n"))
  | ((with_reducible refine' W.w_newL ?wh ?wq); (case wh => walk_at "n"))
  | ((with_reducible refine' W.w_newT ?wh ?wq); (case wh => walk_at "n"))
  | ((with_reducible refine' W.w_listL ?wh ?wq); (case wh => walk_at "f"))
  | ((with_reducible refine' W.w_tupL ?wh ?wq); (case wh => walk_at "f"))
  | ((with_reducible refine' W.w_slL ?wh ?wq); (case wh => walk_at "f"))
  | ((with_reducible refine' W.w_cat ?wh ?wf ?we ?wq); (case wh => walk_at "f"); (case wf => walk_at "f"); (case we => walk_at "n"))
  | ((with_reducible refine' W.w_catT ?wh ?wf ?wx ?wy ?we ?wq); (case wh => walk_at "f"); (case wf => walk_at "f"); (case wx => exact List.cons_ne_nil _ _); (case wy => exact List.cons_ne_nil _ _); (case we => walk_at "n"))
  | ((with_reducible refine' W.w_ext ?wh ?wf ?we ?wq); (case wh => walk_at "f"); (case wf => walk_at "f"); (case we => walk_at "n"))
  | ((with_reducible refine' W.w_recv ?wh ?wq); (case wh => walk_at "f"))
  | ((with_reducible refine' W.w_isi1 ?wh ?we ?wq); (case wh => assumption); (case we => decide +kernel))
  | ((with_reducible refine' W.w_isi0 ?wh ?we ?wq); (case wh => assumption); (case we => decide +kernel))
  | ((with_reducible refine' W.w_isiT10 ?wh ?wf ?we ?wg ?wq); (case wh => assumption); (case wf => walk_at "f"); (case we => decide +kernel); (case wg => decide +kernel))
  | ((with_reducible refine' W.w_isiT01 ?wh ?wf ?we ?wg ?wq); (case wh => assumption); (case wf => walk_at "f"); (case we => decide +kernel); (case wg => decide +kernel))
  | ((with_reducible refine' W.w_isiT00 ?wh ?wf ?we ?wg ?wq); (case wh => assumption); (case wf => walk_at "f"); (case we => decide +kernel); (case wg => decide +kernel))
  | ((with_reducible refine' W.w_ins ?wh ?we ?wf ?wq); (case wh => walk_at "f"); (case we => walk_at "n"); (case wf => walk_at "c"))
  | ((with_reducible refine' W.w_unl ?wh ?we ?wq); (case wh => walk_at "f"); (case we => first | assumption | rfl))
  | ((with_reducible refine' W.ite_T ?_))
  | ((with_reducible refine' W.ite_F ?_))
  | ((with_reducible refine' W.ite_nT ?_))
  | ((with_reducible refine' W.ite_nF ?_))
  | ((with_reducible refine' W.ite_self ?_))
  | ((with_reducible refine' W.ite_nself ?_))
  | ((with_reducible refine' W.ite_tf ?_))
  | ((with_reducible refine' W.ite_ft ?_))
  | ((with_reducible refine' W.ite_ntf ?_))
  | ((with_reducible refine' W.ite_nft ?_))
  | ((with_reducible refine' And.intro ?wl ?wq); (case wl => rfl)))
local macro_rules | `(tactic| walk_at "i") => `(tactic| try (dsimp only [L2.cxOf, L2.wipe, List.map, List.set]))
local macro_rules | `(tactic| walk_at "s") => `(tactic| first | walk_at "v" | walk_at "e" | walk_at "w")
local macro_rules | `(tactic| walk_at "r") => `(tactic| repeat walk_at "s")

namespace My
open PySem L2 W
local macro_rules | `(tactic| walk_at "w") => `(tactic| first
  | ((with_reducible refine' W.w_getF ?wh ?wc ?wn ?wl ?wq); (case wh => walk_at "f"); (case wc => first | exact Env.c_Deeds (by assumption) | exact Env.c_Base (by assumption) | exact Env.c_Reader (by assumption)); (case wn => first | exact Env.x_Deeds_rows (by assumption) | exact Env.x_Base_commits (by assumption) | exact Env.x_Base_deeds (by assumption) | exact Env.x_Reader_data (by assumption) | exact Env.x_Reader_at (by assumption)); (case wl => first | exact lkD | exact lkB1 | exact lkB2 | exact lk1 | exact lk2))
  | ((with_reducible refine' W.w_setF ?wh ?wc ?wn ?wl ?wq); (case wh => walk_at "f"); (case wc => first | exact Env.c_Deeds (by assumption) | exact Env.c_Base (by assumption)); (case wn => first | exact Env.x_Deeds_rows (by assumption) | exact Env.x_Base_commits (by assumption) | exact Env.x_Base_deeds (by assumption)); (case wl => first | exact (show 0 < 1000 by decide) | exact (show 1 < 1000 by decide) | exact (show 2 < 1000 by decide) | exact Nat.lt_of_le_of_lt (length_putF _ _ _) (show 1 < 1000 by decide))))
variable {P : Program} {w : World} {K : PySem.W.Frag} {mg : Str → Option Value} {base : Heap} {A : Adr}
theorem nx1_no {rows : Rws} {t : Tri} (h : ¬ (t.r < 8 ∧ t.p = (rows.getD t.r []).length + 1)) : nx1 rows t = none := by unfold nx1; rw [if_neg h]
theorem nx1_yes {rows : Rws} {t : Tri} (h : t.r < 8 ∧ t.p = (rows.getD t.r []).length + 1) : nx1 rows t = some (rows.set t.r (rows.getD t.r [] ++ [t.d])) := by unfold nx1; rw [if_pos h]
def sp_anote (A : Adr) : Sp := fun vs H Q E => ∃ (b a : Addr) (bs : Bs) (ds : List Int) (M : Nat), vs = [.ref b, .ref a] ∧ Ba A H b bs ∧ bs.2.length = 8 ∧ (∀ row ∈ bs.2, row.length ≤ M) ∧ H a = some (.lst (ds.map V.int)) ∧ M + ds.length ≤ 1000000 ∧
  (∀ bs', note1 bs ds = some bs' → ∀ c H', Keep [] H H' → BaN H A H' c bs' → Q (.ref c) H') ∧ (note1 bs ds = none → ∀ H', Keep [] H H' → E (.ref A.C_DamagedPacket) none H')
theorem ok__after_note (e : Env K mg A) : FnOk P w K mg base (L2.CX P w) 8 A.f__after_note A.d__after_note ["base", "record"] (sp_anote A) := by
  have G_Reader___init__ := ok_Reader___init__ (P := P) (w := w) (base := base) e
  have G_Reader_read_byte := ok_Reader_read_byte (P := P) (w := w) (base := base) e
  have G_Reader_read_triples := ok_Reader_read_triples (P := P) (w := w) (base := base) e
  have G_Reader_end := ok_Reader_end (P := P) (w := w) (base := base) e
  have G_Deeds_counts := ok_Deeds_counts (P := P) (w := w) (base := base) e
  have G_Base_grown := ok_Base_grown (P := P) (w := w) (base := base) e
  refine e.F__after_note.okX sc__after_note (fun vs H Q E h => ?_) (fun cdv AA outer s H vs Q E hr h => ?_)
  · obtain ⟨b, a, bs, ds, M, rfl, _⟩ := h
    rfl
  · obtain ⟨b, a, bs, ds, M, rfl, hB, h8, hM, ha, hMl, q1, q2⟩ := h
    refine ⟨_, (pss_cons (ps_set (i := 2) sc__after_note.nd rfl (Or.inl rfl) (pe_make e.M_Reader G_Reader___init__ (hr.mono (by omega)) (by rfl) e.m_Reader e.b_Reader___init__ .nil pass0 (pa_cons (pv 1) pa_nil)))
    (pss_cons (ps_if (pt_cmpR op_ne (pe_meth0 (pv 2) e.c_Reader e.h_Reader_read_byte G_Reader_read_byte (hr.mono (by omega)) e.b_Reader_read_byte .nil (passes_call (takes_of rfl rfl rfl rfl) (fun _ _ _ _ h => h))) pe_int (nomark _)) (pss_one (ps_raise1 rfl (takes_of rfl rfl rfl rfl) PySem.F.excBase_ValueError e.xx_DamagedPacket e.m_DamagedPacket e.kk_DamagedPacket (raises_own e.bb_DamagedPacket e.tt_DamagedPacket) (by rfl))) pss_nil)
    (pss_cons (ps_set (i := 3) sc__after_note.nd rfl (Or.inl rfl) (pe_meth0 (pv 2) e.c_Reader e.h_Reader_read_triples G_Reader_read_triples (hr.mono (by omega)) e.b_Reader_read_triples .nil (passes_call (takes_of rfl rfl rfl rfl) (fun _ _ _ _ h => h))))
    (pss_cons (ps_expr (pe_meth0 (pv 2) e.c_Reader e.h_Reader_end G_Reader_end (hr.mono (by omega)) e.b_Reader_end .nil (passes_call (takes_of rfl rfl rfl rfl) (fun _ _ _ _ h => h))))
    (pss_cons (ps_set (i := 4) sc__after_note.nd rfl (Or.inl rfl) (pe_meth0 (pe_fldK (K := K) (pv 0) rfl) e.c_Deeds e.h_Deeds_counts G_Deeds_counts (hr.mono (by omega)) e.b_Deeds_counts .nil pass0))
    (pss_cons (ps_for (passes_of rfl) rfl (pi_listK (K := K) (pv 3)) (pg_tupK (K := K) (n := 3) rfl (pgs_cons (pg_name (i := 5) sc__after_note.nd rfl (Or.inl rfl)) (pgs_cons (pg_name (i := 6) sc__after_note.nd rfl (Or.inl rfl)) (pgs_cons (pg_name (i := 7) sc__after_note.nd rfl (Or.inl rfl)) pgs_nil)))) (pss_cons (ps_if (PW.pt (pw_or (pt_cmpR op_ge (pv 5) (pe_glob (by rfl) e.m_REPLICAS e.r_REPLICAS) (nomark _)) (pw_or1 (pt_cmpR op_ne (pv 6) (pe_op op_add (pe_ix (ix_listK (K := K)) (pv 4) (pv 5) (fun _ _ => rfl)) pe_int) (nomark _))))) (pss_one (ps_raise1 rfl (takes_of rfl rfl rfl rfl) PySem.F.excBase_ValueError e.xx_DamagedPacket e.m_DamagedPacket e.kk_DamagedPacket (raises_own e.bb_DamagedPacket e.tt_DamagedPacket) (by rfl))) pss_nil)
    (pss_one (ps_augS (pv 4) (pv 5) (get_listK (K := K)) pe_int ip_add set_list))))
    (pss_one (ps_ret (pe_meth (pv 0) e.c_Base e.h_Base_grown G_Base_grown (hr.mono (by omega)) e.b_Base_grown .nil pass0 (pa_cons (pv 3) pa_nil)))))))))), ?_⟩
    refine enter (st__after_note _ _) ?_
    walk_at "i"
    walk_at "r"
    intro r dx H1 nr k1 hr1
    refine ⟨r, dx, a, ds, rfl, hr1, k1.get ha (by simp), fun d H2 nd k2 R2 => ⟨rfl, ?_⟩⟩
    have k12 : Keep [] H H2 := k1.mut nr k2
    have hr2 := R2.1
    have hlk0 : (rdF d 0).lookup ("read_byte" : Str) = none := lkn (by decide +kernel) (by decide +kernel)
    have no : pnote ds = none → note1 bs ds = none := fun h => by unfold note1; rw [h]; rfl
    clear k1 k2 hr1
    walk_at "r"
    refine ⟨r, dx, d, ds, 0, rfl, R2, fun hp H3 k3 R3 => ?_, fun hp => q2 (no (phead_no hp)) H2 k12⟩
    walk_at "r"
    refine ite_ndec (fun h1 => ?_) (fun h1 => ?_)
    · walk_at "r"
      exact q2 (no (phead_ne hp h1)) H3 (k12.mut nr k3)
    have e1 : pnote ds = pend ds (ptrs ds (0 + 1)) := phead_yes hp h1
    have hr3 := R3.1
    have hlk1 : (rdF d (0 + 1)).lookup ("read_triples" : Str) = none := lkn (by decide +kernel) (by decide +kernel)
    clear hr2
    walk_at "r"
    refine ⟨r, dx, d, ds, 0 + 1, rfl, R3, by omega, fun ts p hn v H4 k4 R4 hv => ?_, fun hn H4 k4 => q2 (no (by rw [e1]; exact pend_no hn)) H4 (k12.mut nr (k3.trans k4))⟩
    obtain ⟨tl, us, rfl, htl, hT⟩ := hv
    have hul : us.length = ts.length := Paired.length hT
    have hr4 := R4.1
    have hlk2 : (rdF d p).lookup ("end" : Str) = none := lkn (by decide +kernel) (by decide +kernel)
    have k14 : Keep [] H H4 := k12.mut nr (k3.trans k4)
    clear hr3 k3 k4 k12 R2 R3
    walk_at "r"
    refine ⟨r, dx, d, ds, p, rfl, R4, fun he => ?_, fun he => q2 (no (by rw [e1]; exact pend_more hn he)) H4 k14⟩
    have e2 : pnote ds = some ts := by rw [e1]; exact pend_all hn he
    have hnl := pnote_ok e2
    have e3 : note1 bs ds = (nxs bs.2 ts).map fun rows => (bs.1 + 1, rows) := by unfold note1; rw [e2]; rfl
    have hB4 := hB.mono k14
    have hB4' := hB4
    obtain ⟨dxb, dd, hb4, hD4, _, hdb⟩ := hB4'
    have hD4' := hD4
    obtain ⟨dxd, rsd, hdd4, _⟩ := hD4'
    have hlk3 : (deF rsd).lookup ("counts" : Str) = none := lkDn (by decide +kernel)
    clear e1 no hr4
    walk_at "r"
    refine ⟨dd, bs.2, rfl, hD4, h8, fun cn H5 nc k5 hcn => ?_⟩
    have k15 := k14.trans k5
    have htl5 := k5.get htl (by simp)
    clear hb4 hdd4
    walk_at "r"
    refine forL (SqL.of htl5) (fun i σ H' => ∃ v5 v6 v7 rk, σ = [some (.ref b), some (.ref a), some (.ref r), some (.ref tl), some (.ref cn), v5, v6, v7] ∧ Keep [] H4 H' ∧ nxs bs.2 (ts.take i) = some rk ∧ H' cn = some (.lst (rk.map fun r => V.int (r.length : Int))))
      ⟨_, _, _, bs.2, rfl, k5, rfl, hcn⟩ (fun i σ H' _ h => ?_) ?_ ?_
    · obtain ⟨_, _, _, _, _, k, _⟩ := h
      exact SqL.of (k.get htl (by simp))
    · rintro i x σ H6 hx ⟨v5, v6, v7, rk, rfl, k6, hrk, hcn6⟩
      obtain ⟨tt, htt, tb, bv, rfl, htb, hdd⟩ := pd_get hT hx
      have htb6 := k6.get htb (by simp)
      have hst := nxs_step hrk htt
      have hr8 : rk.length = 8 := by rw [nxs_len hrk, h8]
      have fail : nx1 rk tt = none → ∀ H', Keep [] H4 H' → E (.ref A.C_DamagedPacket) none H' := fun h H' k => q2 (by rw [e3, nxs_none (i := i + 1) (by rw [hst, h])]; rfl) H' (k14.trans k)
      walk_at "r"
      refine ite_dec (fun h1 => ?_) (fun h1 => ?_)
      · walk_at "r"
        exact fail (nx1_no (fun z => by omega)) H6 k6
      have hlt : tt.r < rk.length := by omega
      have hat : atI (rk.map fun r => V.int (r.length : Int)) (tt.r : Int) = some (.int ((rk.getD tt.r []).length : Int)) := atI_nat (by
        rw [List.getElem?_map, List.getD_eq_getElem?_getD, List.getElem?_eq_getElem hlt]; rfl)
      walk_at "r"
      refine ite_ndec (fun h2 => ?_) (fun h2 => ?_)
      · walk_at "r"
        exact fail (nx1_no (fun z => by omega)) H6 k6
      have hyes := nx1_yes (rows := rk) (t := tt) ⟨by omega, by omega⟩
      have hix : ixN (rk.map fun r => V.int (r.length : Int)).length (tt.r : Int) = some tt.r := Evl.ixN_nat (by rw [List.length_map]; exact hlt)
      walk_at "r"
      intro H7 k7 h7
      refine ⟨_, _, _, rk.set tt.r (rk.getD tt.r [] ++ [tt.d]), rfl, k6.mut nc k7, by rw [hst, hyes], ?_⟩
      rw [h7, List.map_set]
      simp
    · rintro σ H6 ⟨v5, v6, v7, rk, rfl, k6, hrk, hcn6⟩
      rw [hul, List.take_length] at hrk
      have e4 : note1 bs ds = some (bs.1 + 1, rk) := by rw [e3, hrk]; rfl
      obtain ⟨_, hrl⟩ := note1_ok e4 h8 hM
      have hB6 := hB4.mono k6
      have hB6' := hB6
      obtain ⟨dx6, d6, hb6, _⟩ := hB6'
      have hlk : (baF bs.1 d6).lookup ("grown" : Str) = none := lkBn (by decide +kernel) (by decide +kernel)
      walk_at "r"
      exact ⟨b, tl, bs, us, ts, rk, rfl, hB6, h8, k6.get htl (by simp), vTs.keep hT k6, hrk, fun row hrow => by have := hrl row hrow; omega, fun c H7 k7 hc => q1 _ e4 c H7 ((k14.trans k6).trans k7) (hc.back (k14.trans k6))⟩
end My

end
section
set_option maxHeartbeats 4000000
local macro_rules | `(tactic| walk_at "k") => `(tactic| first
  | assumption
  | exact W.Keep.trans (by assumption) (by assumption)
  | exact And.intro (by grind [W.Keep, W.Kp]) (by grind [W.Keep, W.Kt])
  | grind [W.Keep, W.Kp])
local macro_rules | `(tactic| walk_at "f") => `(tactic| first
  | assumption
  | exact L2.SqL.of (by assumption)
  | exact L2.SqT.of (by assumption)
  | exact L2.SqL.of L2.upd_same
  | exact L2.SqT.of L2.upd_same
  | exact L2.upd_same
  | exact W.carryL (by assumption) (by assumption)
  | exact W.carryL (by assumption) (by walk_at "k")
  | exact W.carryT (by assumption) (by walk_at "k")
  | exact W.carry (by assumption) (by grind [W.Keep, W.Kp])
  | exact L2.SqL.of (W.carry (by assumption) (by grind [W.Keep, W.Kp]))
  | exact L2.SqT.of (W.carry (by assumption) (by grind [W.Keep, W.Kp])))
local macro_rules | `(tactic| walk_at "a") => `(tactic| first
  | assumption
  | rfl)
local macro_rules | `(tactic| walk_at "n") => `(tactic| first
  | assumption
  | exact Nat.zero_le _
  | decide
  | (simp only [List.length_cons, List.length_nil]; decide)
  | omega
  | (simp only [PySem.sizeLine_eq]; omega)
  | (simp only [List.length_map, List.length_append, List.length_cons, List.length_nil, PySem.sizeLine_eq]; omega)
  | (simp only [List.length_map, List.length_append, List.length_cons, List.length_nil, List.length_take, List.length_drop, PySem.sizeLine_eq]; omega)
  | (simp only [List.length_map, List.length_append, List.length_cons, List.length_nil, PySem.sizeLine_eq] at *; omega))
local macro_rules | `(tactic| walk_at "c") => `(tactic| first
  | assumption
  | decide
  | exact And.intro (by decide) (by decide)
  | exact Or.inr (And.intro (by decide) (by decide))
  | exact Or.inl (And.intro (by decide) (by decide))
  | exact And.intro (by decide) (And.intro (by decide) (by decide))
  | exact (show (0 : Int) < _ by decide)
  | exact And.intro (by omega) (by omega)
  | exact Or.inl (And.intro (by omega) (by omega))
  | exact Or.inr (And.intro (by omega) (by omega))
  | exact (show (0 : Int) < _ by omega))
local macro_rules | `(tactic| walk_at "v") => `(tactic| with_reducible first
  | refine W.v0 ?_ | refine W.v1 ?_ | refine W.v2 ?_ | refine W.v3 ?_ | refine W.v4 ?_ | refine W.v5 ?_ | refine W.v6 ?_ | refine W.v7 ?_ | refine W.v8 ?_
  | refine W.v9 ?_ | refine W.v10 ?_ | refine W.v11 ?_ | refine W.v12 ?_ | refine W.v13 ?_ | refine W.v14 ?_ | refine W.v15 ?_ | refine W.v16 ?_ | refine W.v17 ?_
  | refine W.g0 ?_ | refine W.g1 ?_ | refine W.g2 ?_ | refine W.g3 ?_ | refine W.g4 ?_ | refine W.g5 ?_ | refine W.g6 ?_ | refine W.g7 ?_ | refine W.g8 ?_
  | refine W.g9 ?_ | refine W.g10 ?_ | refine W.g11 ?_ | refine W.g12 ?_ | refine W.g13 ?_ | refine W.g14 ?_ | refine W.g15 ?_)
local macro_rules | `(tactic| walk_at "e") => `(tactic| with_reducible first
  | refine W.e_c ?_ | refine W.e_op ?_ | refine W.s_seq ?_ | refine W.s_asg ?_ | refine W.e_CB ?_ | refine W.a_cons ?_ | refine W.a_nil ?_ | refine W.e_call ?_
  | refine W.t_test ?_ | refine W.w_B ?_ | refine W.s_if ?_ | refine W.s_ret ?_ | refine W.s_drop ?_ | refine W.e_un ?_ | refine W.e_fld ?_ | refine W.s_fld ?_
  | refine W.e_meth ?_ | refine W.e_if ?_ | refine W.e_lst ?_ | refine W.e_tup ?_ | refine W.e_sl ?_ | refine W.o_none ?_ | refine W.o_some ?_ | refine W.w_part ?_
  | refine W.e_bm ?_ | refine W.e_bm0 ?_ | refine W.t_B ?_ | refine W.t_and ?_ | refine W.t_or ?_ | refine W.t_not ?_ | refine W.e_andV ?_ | refine W.e_orV ?_ | refine W.e_notV ?_ | refine W.w_BV ?_ | refine W.e_chain ?_
  | refine W.s_aug ?_ | refine W.s_augS ?_ | refine W.s_next ?_ | refine W.s_brk ?_ | refine W.s_cont ?_ | refine W.s_retN ?_ | refine W.s_fa ?_ | refine W.e_make ?_ | refine W.w_make ?_
  | refine W.w_I0 ?_ | refine W.w_U ?_ | refine W.w_aug ?_ | refine W.w_eqI ?_ | refine W.w_neI ?_ | refine W.w_eqS ?_ | refine W.w_neS ?_ | refine W.w_eqB ?_ | refine W.w_neB ?_
  | refine W.w_int ?_ | refine W.w_intB ?_ | refine W.w_min ?_ | refine W.w_max ?_ | refine W.w_isN ?_ | refine W.w_isI ?_ | refine W.w_isS ?_ | refine W.w_isB ?_ | refine W.w_isR ?_
  | refine W.w_notN ?_ | refine W.w_notI ?_ | refine W.w_notR ?_ | refine W.w_notS ?_ | refine W.w_eqNI ?_ | refine W.w_neNI ?_ | refine W.w_eqN ?_ | refine W.w_neN ?_
  | refine W.s_forL ?_ | refine W.s_forT ?_ | refine W.s_forS ?_ | refine W.s_forR1 ?_ | refine W.s_forR2 ?_ | refine W.s_forR3 ?_ | refine W.s_forZ ?_ | refine W.s_forE ?_
  | refine W.e_lcL ?_ | refine W.e_lcT ?_ | refine W.w_ord ?_ | refine W.e_lcR1 ?_ | refine W.e_lcR2 ?_ | refine W.e_lcZ ?_ | refine W.e_lcS ?_ | refine W.t_yes ?_ | refine W.w_gcons ?_ | refine W.w_gnil ?_ | refine W.s_par ?_ | refine W.w_par ?_ | refine W.g_sub ?_ | refine W.e_m1 ?_ | refine W.w_strR ?_ | refine W.w_rAdd ?_ | refine W.w_rSub ?_ | refine W.s_raise ?_ | refine W.s_try ?_ | refine W.e_methS ?_ | refine W.e_callS ?_)
local macro_rules | `(tactic| walk_at "w") => `(tactic| first
  | ((with_reducible refine' W.w_I ?wh ?wq); (case wh => walk_at "c"))
  | ((with_reducible refine' W.w_ixL (n := 0) ?wh ?we ?wq); (case wh => walk_at "f"); (case we => walk_at "a"))
  | ((with_reducible refine' W.w_ixT (n := 0) ?wh ?we ?wq); (case wh => walk_at "f"); (case we => walk_at "a"))
  | ((with_reducible refine' W.w_lenL ?wh ?wq); (case wh => walk_at "f"))
  | ((with_reducible refine' W.w_lenT ?wh ?wq); (case wh => walk_at "f"))
  | ((with_reducible refine' W.w_lenS ?wh ?wq); (case wh => walk_at "n"))
  | ((with_reducible refine' W.w_app ?wh ?we ?wq); (case wh => walk_at "f"); (case we => walk_at "n"))
  | ((with_reducible refine' W.w_meth ?wh ?we ?wq); (case wh => walk_at "f"); (case we => first | assumption | rfl))
  | ((with_reducible refine' W.w_ixLTl ?wh ?we ?wq); (case wh => walk_at "f"); (case we => walk_at "a"))
  | ((with_reducible refine' W.w_ixLTt ?wh ?we ?wq); (case wh => walk_at "f"); (case we => walk_at "a"))
  | ((with_reducible refine' W.w_addS ?wh ?wq); (case wh => walk_at "n"))
  | ((with_reducible refine' W.w_set ?wh ?we ?wq); (case wh => walk_at "f"); (case we => walk_at "a"))
  | ((with_reducible refine' W.w_tup ?wh ?we ?wq); (case wh => walk_at "f"); (case we => first | assumption | rfl))
  | ((with_reducible refine' W.w_slS ?wh ?wq); (case wh => walk_at "n"))
  | ((with_reducible refine' W.w_rApp ?wh ?we ?wq); (case wh => walk_at "f"); (case we => walk_at "n"))
  | ((with_reducible refine' W.w_newL ?wh ?wq); (case wh => walk_at "n"))
  | ((with_reducible refine' W.w_newT ?wh ?wq); (case wh => walk_at "n"))
  | ((with_reducible refine' W.w_listL ?wh ?wq); (case wh => walk_at "f"))
  | ((with_reducible refine' W.w_tupL ?wh ?wq); (case wh => walk_at "f"))
  | ((with_reducible refine' W.w_slL ?wh ?wq); (case wh => walk_at "f"))
  | ((with_reducible refine' W.w_cat ?wh ?wf ?we ?wq); (case wh => walk_at "f"); (case wf => walk_at "f"); (case we => walk_at "n"))
  | ((with_reducible refine' W.w_catT ?wh ?wf ?wx ?wy ?we ?wq); (case wh => walk_at "f"); (case wf => walk_at "f"); (case wx => exact List.cons_ne_nil _ _); (case wy => exact List.cons_ne_nil _ _); (case we => walk_at "n"))
  | ((with_reducible refine' W.w_ext ?wh ?wf ?we ?wq); (case wh => walk_at "f"); (case wf => walk_at "f"); (case we => walk_at "n"))
  | ((with_reducible refine' W.w_recv ?wh ?wq); (case wh => walk_at "f"))
  | ((with_reducible refine' W.w_isi1 ?wh ?we ?wq); (case wh => assumption); (case we => decide +kernel))
  | ((with_reducible refine' W.w_isi0 ?wh ?we ?wq); (case wh => assumption); (case we => decide +kernel))
  | ((with_reducible refine' W.w_isiT10 ?wh ?wf ?we ?wg ?wq); (case wh => assumption); (case wf => walk_at "f"); (case we => decide +kernel); (case wg => decide +kernel))
  | ((with_reducible refine' W.w_isiT01 ?wh ?wf ?we ?wg ?wq); (case wh => assumption); (case wf => walk_at "f"); (case we => decide +kernel); (case wg => decide +kernel))
  | ((with_reducible refine' W.w_isiT00 ?wh ?wf ?we ?wg ?wq); (case wh => assumption); (case wf => walk_at "f"); (case we => decide +kernel); (case wg => decide +kernel))
  | ((with_reducible refine' W.w_ins ?wh ?we ?wf ?wq); (case wh => walk_at "f"); (case we => walk_at "n"); (case wf => walk_at "c"))
  | ((with_reducible refine' W.w_unl ?wh ?we ?wq); (case wh => walk_at "f"); (case we => first | assumption | rfl))
  | ((with_reducible refine' W.ite_T ?_))
  | ((with_reducible refine' W.ite_F ?_))
  | ((with_reducible refine' W.ite_nT ?_))
  | ((with_reducible refine' W.ite_nF ?_))
  | ((with_reducible refine' W.ite_self ?_))
  | ((with_reducible refine' W.ite_nself ?_))
  | ((with_reducible refine' W.ite_tf ?_))
  | ((with_reducible refine' W.ite_ft ?_))
  | ((with_reducible refine' W.ite_ntf ?_))
  | ((with_reducible refine' W.ite_nft ?_))
  | ((with_reducible refine' And.intro ?wl ?wq); (case wl => rfl)))
local macro_rules | `(tactic| walk_at "i") => `(tactic| try (dsimp only [L2.cxOf, L2.wipe, List.map, List.set]))
local macro_rules | `(tactic| walk_at "s") => `(tactic| first | walk_at "v" | walk_at "e" | walk_at "w")
local macro_rules | `(tactic| walk_at "r") => `(tactic| repeat walk_at "s")

namespace My
open PySem L2 W
local macro_rules | `(tactic| walk_at "w") => `(tactic| first
  | ((with_reducible refine' W.w_getF ?wh ?wc ?wn ?wl ?wq); (case wh => walk_at "f"); (case wc => first | exact Env.c_Deeds (by assumption) | exact Env.c_Base (by assumption) | exact Env.c_Reader (by assumption)); (case wn => first | exact Env.x_Deeds_rows (by assumption) | exact Env.x_Base_commits (by assumption) | exact Env.x_Base_deeds (by assumption) | exact Env.x_Reader_data (by assumption) | exact Env.x_Reader_at (by assumption)); (case wl => first | exact lkD | exact lkB1 | exact lkB2 | exact lk1 | exact lk2))
  | ((with_reducible refine' W.w_setF ?wh ?wc ?wn ?wl ?wq); (case wh => walk_at "f"); (case wc => first | exact Env.c_Deeds (by assumption) | exact Env.c_Base (by assumption)); (case wn => first | exact Env.x_Deeds_rows (by assumption) | exact Env.x_Base_commits (by assumption) | exact Env.x_Base_deeds (by assumption)); (case wl => first | exact (show 0 < 1000 by decide) | exact (show 1 < 1000 by decide) | exact (show 2 < 1000 by decide) | exact Nat.lt_of_le_of_lt (length_putF _ _ _) (show 1 < 1000 by decide))))
variable {P : Program} {w : World} {K : PySem.W.Frag} {mg : Str → Option Value} {base : Heap} {A : Adr}
theorem tell_short {l : List (List Int × Nat)} (h : l.length < 3) : tell l = none := by
  match l, h with
  | [], _ => rfl
  | [_], _ => rfl
  | [_, _], _ => rfl
theorem three {l : List (List Int × Nat)} (h : ¬ l.length < 3) : ∃ z0 z1 z2 r, l = z0 :: z1 :: z2 :: r := by
  match l, h with
  | z0 :: z1 :: z2 :: r, _ => exact ⟨z0, z1, z2, r, rfl⟩
  | [], h => exact absurd (by decide : 0 < 3) h
  | [_], h => exact absurd (by decide : 1 < 3) h
  | [_, _], h => exact absurd (by decide : 2 < 3) h
theorem tell_3 {z0 z1 z2 : List Int × Nat} {r : List (List Int × Nat)} : tell (z0 :: z1 :: z2 :: r) = if z2.1 = [2] then (pturn z0.1).bind fun t => (pbase z1.1).map fun b => (t, b :: (scan b z2.2 r).1, (scan b z2.2 r).2) else none := rfl
/-- what a log tells, on a heap -/
def vLog (A : Adr) (H : Hp) : Option (Nat × List Bs × Nat) → V → Prop
  | none, v => v = .non
  | some (t, bss, n), v => ∃ tt b, v = .ref tt ∧ H tt = some (.tup [.int (t : Int), .ref b, .int (n : Int)]) ∧ Ba A H b (bss.getLastD (0, []))
theorem vLog_no {A : Adr} {H : Hp} {z : Option (Nat × List Bs × Nat)} (h : z = none) : vLog A H z .non := by subst h; rfl
theorem vLog_yes {A : Adr} {H : Hp} {z : Option (Nat × List Bs × Nat)} {t n : Nat} {bss : List Bs} {tt b : Addr} (h : z = some (t, bss, n)) (ht : H tt = some (.tup [.int (t : Int), .ref b, .int (n : Int)])) (hb : Ba A H b (bss.getLastD (0, []))) : vLog A H z (.ref tt) := by subst h; exact ⟨tt, b, rfl, ht, hb⟩
theorem Re.drop {ds : List Int} (hb : ∀ b ∈ ds, 0 ≤ b ∧ b < 256) : ∀ {l : List (List Int × Nat)} {s i : Nat} {z : List Int × Nat}, Re ds s l → l[i]? = some z → z.2 = lastE s (l.take i) + (My.rec z.1).length ∧ z.2 ≤ ds.length
  | [], _, _, _, _, h => by simp at h
  | y :: r, s, 0, z, hR, h => by
    simp at h
    subst h
    cases hR with
    | more h1 h2 h3 => exact ⟨(Re.size hb h1 h2).symm, h2.1⟩
  | y :: r, s, i + 1, z, hR, h => by
    cases hR with
    | more h1 h2 h3 => exact Re.drop hb (l := r) (i := i) h3 (by simpa using h)
def sp_rlog (A : Adr) : Sp := fun vs H Q _ => ∃ (a : Addr) (ds : List Int) (l : List (List Int × Nat)), vs = [.ref a] ∧ H a = some (.lst (ds.map V.int)) ∧ ds.length ≤ 400000 ∧ (∀ b ∈ ds, 0 ≤ b ∧ b < 256) ∧ Re ds 0 l ∧ ∀ v H', Keep [] H H' → vLog A H' (tell l) v → Q v H'
theorem Lsts.get {H : Hp} {us : List V} {xs : List (List Int)} {i : Nat} {x : List Int} (h : Lsts H us xs) (e : xs[i]? = some x) : ∃ t, us[i]? = some (.ref t) ∧ H t = some (.lst (x.map V.int)) := by
  obtain ⟨v, hv, t, rfl, ht⟩ := pd_get' h e
  exact ⟨t, hv, ht⟩
theorem Lsts.three {H : Hp} {us : List V} {x0 x1 x2 : List Int} {r : List (List Int)} (h : Lsts H us (x0 :: x1 :: x2 :: r)) : ∃ t0 t1 t2 ur, us = .ref t0 :: .ref t1 :: .ref t2 :: ur ∧ H t0 = some (.lst (x0.map V.int)) ∧ H t1 = some (.lst (x1.map V.int)) ∧ H t2 = some (.lst (x2.map V.int)) ∧ Lsts H ur r := by
  unfold Lsts at h
  cases h with
  | cons h0 h =>
    cases h with
    | cons h1 h =>
      cases h with
      | cons h2 h =>
        obtain ⟨t0, rfl, e0⟩ := h0
        obtain ⟨t1, rfl, e1⟩ := h1
        obtain ⟨t2, rfl, e2⟩ := h2
        exact ⟨t0, t1, t2, _, rfl, e0, e1, e2, h⟩
theorem cut3_to (a b c : V) (r : List V) : cutV (a :: b :: c :: r) none (some 3) = [a, b, c] := cutV_to _ 3
theorem cut3_from (a b c : V) (r : List V) : cutV (a :: b :: c :: r) (some 3) none = r := cutV_from _ 3
theorem getLastD_snoc (b : Bs) (l : List Bs) (x d : Bs) : (b :: (l ++ [x])).getLastD d = x := by
  rw [← List.cons_append, List.getLastD_concat]
theorem ok_read_log (e : Env K mg A) : FnOk P w K mg base CX0 9 A.f_read_log A.d_read_log ["data"] (sp_rlog A) := by
  have G_read_records := ok_read_records (P := P) (w := w) (base := base) e
  have G_write_record := ok_write_record (P := P) (w := w) (base := base) e
  have G__read_turn := ok__read_turn (P := P) (w := w) (base := base) e
  have G__read_base := ok__read_base (P := P) (w := w) (base := base) e
  have G__after_note := ok__after_note (P := P) (w := w) (base := base) e
  refine e.F_read_log.ok sc_read_log (fun vs H Q E h => ?_) (fun cdv AA outer s H vs Q E hr h => ?_)
  · obtain ⟨a, ds, l, rfl, _⟩ := h
    rfl
  · obtain ⟨a, ds, l, rfl, ha, hl, hby, hR, q⟩ := h
    refine ⟨_, (pss_cons (ps_set (i := 1) sc_read_log.nd rfl (Or.inl rfl) (pe_ix (ix_tupK (K := K)) (pe_call G_read_records (hr.mono (by omega)) (by rfl) e.m_read_records e.k_read_records e.b_read_records .nil pass0 (pa_cons (pv 0) pa_nil)) pe_int (fun _ _ => rfl)))
    (pss_cons (ps_if (PW.pt (pw_or (pt_cmpR op_lt (pe_callB (call_lenLK (K := K)) (by rfl) e.n_len (by decide +kernel) (pa_cons (pv 1) pa_nil)) pe_int (nomark _)) (pw_or1 (pt_cmpR (op_neDK hr.units (K := K)) (pe_ix (ix_listK (K := K)) (pv 1) pe_int (fun _ _ => rfl)) (pe_lst (pa_cons pe_int pa_nil)) (nomark _))))) (pss_one (ps_ret pe_non)) pss_nil)
    (pss_cons (ps_try1 (K := K) rfl rfl ⟨by rfl, by decide, .inl e.m_DamagedPacket⟩ takes0 (fun W pn xe tk po => (pss_cons (ps_set (i := 2) sc_read_log.nd rfl (Or.inl rfl) (pe_callS G__read_turn (hr.mono (by omega)) (by rfl) e.m__read_turn e.k__read_turn e.b__read_turn (fun σ => passAt tk σ) (pa_cons (pe_ix (ix_listK (K := K)) (pv 1) pe_int (fun _ _ => rfl)) pa_nil)))
    (pss_one (ps_set (i := 3) sc_read_log.nd rfl (Or.inl rfl) (pe_callS G__read_base (hr.mono (by omega)) (by rfl) e.m__read_base e.k__read_base e.b__read_base (fun σ => passAt tk σ) (pa_cons (pe_ix (ix_listK (K := K)) (pv 1) pe_int (fun _ _ => rfl)) pa_nil)))))) (fun a oe cls d pn _ _ => (pss_one (ps_ret pe_non))))
    (pss_cons (ps_set (i := 4) sc_read_log.nd rfl (Or.inl rfl) (pe_callB (cr_sumK rfl (K := K)) (by rfl) e.n_sum (by decide +kernel) (pa_cons (pe_lc (own := [("record", 5)]) (by rfl) sc_read_log.nd (pi_listK (K := K) (pe_slice (sl_listK (K := K)) (pv 1) po_none (po_some pe_int))) (blkOk_by (own := [("record", 5)]) (N := nm_read_log) (sc := defScope s_read_log) (by decide +kernel)) (fun _ _ _ _ _ => (pg_name (i := 5) sc_read_log.nd rfl (Or.inl rfl))) (fun _ _ _ _ _ => pts_nil) (fun _ _ _ _ _ => (pe_callB (call_lenLK (K := K)) (by rfl) e.n_len (by decide +kernel) (pa_cons (pe_call G_write_record (hr.mono (by omega)) (by rfl) e.m_write_record e.k_write_record e.b_write_record .nil pass0 (pa_cons (pv 5) pa_nil)) pa_nil)))) pa_nil)))
    (pss_cons (ps_for PassesOwn.never rfl (pi_listK (K := K) (pe_slice (sl_listK (K := K)) (pv 1) (po_some pe_int) po_none)) (pg_name (i := 5) sc_read_log.nd rfl (Or.inl rfl)) (pss_cons (ps_try1 (K := K) rfl rfl ⟨by rfl, by decide, .inl e.m_DamagedPacket⟩ takes0 (fun W pn xe tk po => (pss_one (ps_set (i := 3) sc_read_log.nd rfl (Or.inl rfl) (pe_callS G__after_note (hr.mono (by omega)) (by rfl) e.m__after_note e.k__after_note e.b__after_note (fun σ => passAt tk σ) (pa_cons (pv 3) (pa_cons (pv 5) pa_nil)))))) (fun a oe cls d pn _ _ => (pss_one ps_break)))
    (pss_one (ps_aug (i := 4) sc_read_log.nd rfl (Or.inl rfl) (pe_callB (call_lenLK (K := K)) (by rfl) e.n_len (by decide +kernel) (pa_cons (pe_call G_write_record (hr.mono (by omega)) (by rfl) e.m_write_record e.k_write_record e.b_write_record .nil pass0 (pa_cons (pv 5) pa_nil)) pa_nil)) ip_add))))
    (pss_one (ps_ret (pe_tup (pa_cons (pv 2) (pa_cons (pv 3) (pa_cons (pv 4) pa_nil))))))))))), ?_⟩
    refine enter (st_read_log _) ?_
    walk_at "i"
    walk_at "r"
    refine ⟨a, ds, l, rfl, ha, by omega, hR, fun t p us H1 _ k1 ht hp hL => ?_⟩
    have hul : us.length = l.length := by rw [hL.len, List.length_map]
    walk_at "r"
    rw [hul]
    refine ite_dec (fun h1 => ?_) (fun h1 => ?_)
    · walk_at "r"
      exact q _ H1 k1 (vLog_no (tell_short (by omega)))
    obtain ⟨z0, z1, z2, rest, rfl⟩ := three (show ¬ l.length < 3 by omega)
    obtain ⟨t0, t1, t2, ur, rfl, ht0, ht1, ht2, hLr⟩ := Lsts.three hL
    have hr0 := hR.recs z0 (by simp)
    have hr1 := hR.recs z1 (by simp)
    have hr2 := hR.recs z2 (by simp)
    clear ht
    have at0 : atI (.ref t0 :: .ref t1 :: .ref t2 :: ur : List V) 0 = some (.ref t0) := atI_nat (j := 0) rfl
    have at1 : atI (.ref t0 :: .ref t1 :: .ref t2 :: ur : List V) 1 = some (.ref t1) := atI_nat (j := 1) rfl
    have at2 : atI (.ref t0 :: .ref t1 :: .ref t2 :: ur : List V) 2 = some (.ref t2) := atI_nat (j := 2) rfl
    walk_at "r"
    intro x2 H2 n2 k2 hx2
    refine w_neL (xs := z2.1) (ys := [2]) (k2.get ht2 (by simp)) hx2 ?_
    walk_at "r"
    refine ite_ndec (fun h2 => ?_) (fun h2 => ?_)
    · walk_at "r"
      exact q _ H2 (k1.trans k2) (vLog_no (by rw [tell_3, if_neg h2]))
    have e1 : tell (z0 :: z1 :: z2 :: rest) = (pturn z0.1).bind fun t => (pbase z1.1).map fun b => (t, b :: (scan b z2.2 rest).1, (scan b z2.2 rest).2) := by rw [tell_3, if_pos h2]
    have k12 := k1.trans k2
    have hp2 := k2.get hp (by simp)
    have hr3 : ∀ z ∈ rest, z.1.length ≤ ds.length ∧ (∀ b ∈ z.1, b ∈ ds) := fun z hz => hR.recs z (List.mem_cons_of_mem _ (List.mem_cons_of_mem _ (List.mem_cons_of_mem _ hz)))
    have d0 := Re.drop hby (i := 0) (z := z0) hR rfl
    have d1 := Re.drop hby (i := 1) (z := z1) hR rfl
    have d2 := Re.drop hby (i := 2) (z := z2) hR rfl
    have d3 : ∀ i z, rest[i]? = some z → z.2 = lastE z2.2 (rest.take i) + (My.rec z.1).length ∧ z.2 ≤ ds.length := fun i z h => Re.drop hby (i := i + 3) (z := z) hR (by simpa using h)
    simp only [List.take_succ_cons, List.take_zero, lastE] at d0 d1 d2
    have hsum : ([((My.rec z0.1).length : Int), ((My.rec z1.1).length : Int), ((My.rec z2.1).length : Int)] : List Int).sum = (z2.2 : Int) := by simp; omega
    have ht02 := k2.get ht0 (by simp)
    have ht12 := k2.get ht1 (by simp)
    have ht22 := k2.get ht2 (by simp)
    have hLr2 := hLr.mono k2
    have hurl : ur.length = rest.length := by rw [hLr.len, List.length_map]
    clear hx2 k2 k1 hp hL ht0 ht1 ht2 hLr
    walk_at "r"
    refine ⟨t0, z0.1, rfl, ht02, by omega, fun tn htn H3 k3 => ?_, fun htn H3 k3 => w_only (exm_D e) (fun x _ => ?_)⟩
    case refine_2 =>
      walk_at "r"
      exact q _ H3 (k12.trans k3) (vLog_no (by rw [e1, htn]; rfl))
    have hp3 := k3.get hp2 (by simp)
    have ht13 := k3.get ht12 (by simp)
    walk_at "r"
    refine ⟨t1, z1.1, rfl, ht13, by omega, fun b0 hb0 b H4 k4 hB => ?_, fun hb0 H4 k4 => w_only (exm_D e) (fun x _ => ?_)⟩
    case refine_2 =>
      walk_at "r"
      exact q _ H4 (k12.trans (k3.trans k4)) (vLog_no (by rw [e1, htn, hb0]; rfl))
    have e2 : tell (z0 :: z1 :: z2 :: rest) = some (tn, b0 :: (scan b0 z2.2 rest).1, (scan b0 z2.2 rest).2) := by rw [e1, htn, hb0]; rfl
    obtain ⟨hb8, hbl⟩ := pbase_ok hb0
    have k24 := k3.trans k4
    have k14 := k12.trans k24
    have hB4 := hB.any
    have hp4 := k4.get hp3 (by simp)
    have hLs4 : Lsts H4 [.ref t0, .ref t1, .ref t2] [z0.1, z1.1, z2.1] := Paired.cons ⟨t0, rfl, k24.get ht02 (by simp)⟩ (Paired.cons ⟨t1, rfl, k24.get ht12 (by simp)⟩ (Paired.cons ⟨t2, rfl, k24.get ht22 (by simp)⟩ Paired.nil))
    have hLr4 := hLr2.mono k24
    clear e1 htn hb0 hB k3 k4 hp3 hp2 ht13 ht02 ht12 ht22 hLr2 k12 k24
    walk_at "r"
    rw [cut3_to]
    intro sl H5 ns k5 hsl
    have hLs5 := hLs4.mono k5
    walk_at "r"
    refine lcL (SqL.of hsl) (fun D i H' => Keep [] H5 H' ∧ H' D = some (.lst ((([((My.rec z0.1).length : Int), ((My.rec z1.1).length : Int), ((My.rec z2.1).length : Int)] : List Int).take i).map V.int))) (fun D H6 nD k6 hD => ⟨k6, hD⟩) (fun D i H' _ h => SqL.of (h.1.get hsl (by simp))) ?_ ?_
    · rintro D i x H6 nD hx ⟨k6, hD⟩
      obtain ⟨y, hy, t', rfl, ht'⟩ := pd_get hLs5 hx
      have hyl : y.length ≤ ds.length := by
        have hm := List.mem_of_getElem? hy
        simp only [List.mem_cons, List.not_mem_nil, or_false] at hm
        rcases hm with rfl | rfl | rfl
        · exact hr0.1
        · exact hr1.1
        · exact hr2.1
      have hin : ([((My.rec z0.1).length : Int), ((My.rec z1.1).length : Int), ((My.rec z2.1).length : Int)] : List Int)[i]? = some ((My.rec y).length : Int) := by
        match i, hy with
        | 0, hy => cases hy; rfl
        | 1, hy => cases hy; rfl
        | 2, hy => cases hy; rfl
      have hi3 : i < 3 := (List.getElem?_eq_some_iff.mp hin).1
      walk_at "i"
      walk_at "r"
      refine ⟨t', y, rfl, k6.get ht' (by simp), by omega, fun w1 H7 n7 k7 h7 => ?_⟩
      have hD7 := k7.get hD (by simp)
      walk_at "r"
      rw [List.length_map]
      have hacc : ((([((My.rec z0.1).length : Int), ((My.rec z1.1).length : Int), ((My.rec z2.1).length : Int)] : List Int).take i).map V.int).length ≤ 3 := by rw [List.length_map, List.length_take]; omega
      walk_at "r"
      intro H8 k8 h8
      refine ⟨(k6.trans k7).mut nD k8, ?_⟩
      rw [h8, List.take_add_one, hin, List.map_append]; rfl
    rintro D H6 nD ⟨k6, hD⟩
    walk_at "r"
    refine ⟨D, _, rfl, SqL.of (show H6 D = some (.lst (([((My.rec z0.1).length : Int), ((My.rec z1.1).length : Int), ((My.rec z2.1).length : Int)] : List Int).map V.int)) from hD), ?_⟩
    rw [hsum]
    have k46 := k5.trans k6
    have hp6 := k46.get hp4 (by simp)
    have hLr6 := hLr4.mono k46
    have hB6 := hB4.mono k46
    have k16 := k14.trans k46
    clear hD hLs5 hLs4 hsl hp4 hLr4 hB4 k14 k46 k5 k6 hsum
    walk_at "r"
    rw [cut3_from]
    intro sl2 H7 n7 k7 hsl2
    have hLr7 := hLr6.mono k7
    have k17 := k16.trans k7
    have hB7 := hB6.mono k7
    clear hp6 hLr6 hB6 k16 k7
    have fin : ∀ (b' : Addr) (bs' : Bs) (e' : Nat) (pre : List Bs) (H' : Hp), Keep [] H7 H' → Ba A H' b' bs' → scan b0 z2.2 rest = (pre, e') → (b0 :: pre).getLastD (0, []) = bs' → ∀ tt H8, Keep [] H' H8 → H8 tt = some (.tup [.int (tn : Int), .ref b', .int (e' : Int)]) → Q (.ref tt) H8 := fun b' bs' e' pre H' k hb hs hl tt H8 k8 ht => by
      refine q _ H8 (k17.trans (k.trans k8)) (vLog_yes (t := tn) (n := e') (bss := b0 :: pre) (by rw [e2, hs]) ht (by rw [hl]; exact hb.mono k8))
    walk_at "r"
    refine forL (SqL.of hsl2) (fun i σ H' => ∃ (b' : Addr) (bs' : Bs) (e' : Nat) (v5 : Option V) (pre : List Bs), σ = [some (.ref a), some (.ref p), some (.int (tn : Int)), some (.ref b'), some (.int (e' : Int)), v5] ∧ Keep [] H7 H' ∧ Ba A H' b' bs' ∧ bs'.2.length = 8 ∧ (∀ row ∈ bs'.2, row.length ≤ e') ∧ e' = lastE z2.2 (rest.take i) ∧ e' ≤ ds.length ∧
        scan b0 z2.2 rest = (pre ++ (scan bs' e' (rest.drop i)).1, (scan bs' e' (rest.drop i)).2) ∧ (b0 :: pre).getLastD (0, []) = bs')
      ⟨b, b0, z2.2, _, [], rfl, Keep.refl, hB7, hb8, fun row hrow => Nat.le_trans (hbl row hrow) ?_, rfl, d2.2, rfl, rfl⟩ (fun i σ H' _ h => ?_) ?_ ?_
    · have := rec_len z1.1
      omega
    · obtain ⟨_, _, _, _, _, _, k, _⟩ := h
      exact SqL.of (k.get hsl2 (by simp))
    · rintro i x σ H8 hx ⟨b', bs', e', v5, pre, rfl, k8, hB8, h8, hbd, he', hel, hsc, hla⟩
      obtain ⟨y, hy, t', rfl, ht'⟩ := pd_get hLr7 hx
      rw [List.getElem?_map, Option.map_eq_some_iff] at hy
      obtain ⟨z, hz, rfl⟩ := hy
      have hzm := hr3 z (List.mem_of_getElem? hz)
      obtain ⟨dz1, dz2⟩ := d3 i z hz
      rw [← he'] at dz1
      have hdr : rest.drop i = z :: rest.drop (i + 1) := by
        have hil := (List.getElem?_eq_some_iff.mp hz).1
        rw [List.drop_eq_getElem_cons hil]
        congr 1
        exact (List.getElem?_eq_some_iff.mp hz).2
      rw [hdr] at hsc
      have ht8 := k8.get ht' (by simp)
      have hrl := rec_len z.1
      walk_at "r"
      refine ⟨b', t', bs', z.1, e', rfl, hB8, h8, hbd, ht8, by omega, fun bs2 hn c H9 k9 hc => ?_, fun hn H9 k9 => w_only (exm_D e) (fun x _ => ?_)⟩
      · rw [scan_some hn] at hsc
        obtain ⟨n8, nbd⟩ := note1_ok hn h8 hbd
        have ht9 := k9.get ht8 (by simp)
        walk_at "r"
        refine ⟨t', z.1, rfl, ht9, by omega, fun w1 H10 n10 k10 h10 => ?_⟩
        walk_at "r"
        rw [List.length_map]
        refine ⟨c, bs2, z.2, some (.ref t'), pre ++ [bs2], ?_, k8.trans (k9.trans k10), (hc.any).mono k10, n8, fun row hrow => by have := nbd row hrow; omega, ?_, dz2, by rw [hsc, List.append_assoc]; rfl, getLastD_snoc _ _ _ _⟩
        · rw [dz1, show ((e' + (My.rec z.1).length : Nat) : Int) = (e' : Int) + ((My.rec z.1).length : Int) by omega]
        · rw [List.take_add_one, hz]
          exact (lastE_snoc z _ _).symm
      · rw [scan_none hn, List.append_nil] at hsc
        have hB9 := hB8.mono k9
        walk_at "r"
        intro tt H10 n10 k10 htt
        exact fin b' bs' e' pre H9 (k8.trans k9) hB9 hsc hla tt H10 k10 htt
    · rintro σ H8 ⟨b', bs', e', v5, pre, rfl, k8, hB8, h8, hbd, he', hel, hsc, hla⟩
      rw [hurl, List.drop_length] at hsc
      have hsc : scan b0 z2.2 rest = (pre ++ [], e') := hsc
      rw [List.append_nil] at hsc
      walk_at "r"
      intro tt H10 n10 k10 htt
      exact fin b' bs' e' pre H8 k8 hB8 hsc hla tt H10 k10 htt
end My

end
section
set_option maxHeartbeats 4000000
local macro_rules | `(tactic| walk_at "k") => `(tactic| first
  | assumption
  | exact W.Keep.trans (by assumption) (by assumption)
  | exact And.intro (by grind [W.Keep, W.Kp]) (by grind [W.Keep, W.Kt])
  | grind [W.Keep, W.Kp])
local macro_rules | `(tactic| walk_at "f") => `(tactic| first
  | assumption
  | exact L2.SqL.of (by assumption)
  | exact L2.SqT.of (by assumption)
  | exact L2.SqL.of L2.upd_same
  | exact L2.SqT.of L2.upd_same
  | exact L2.upd_same
  | exact W.carryL (by assumption) (by assumption)
  | exact W.carryL (by assumption) (by walk_at "k")
  | exact W.carryT (by assumption) (by walk_at "k")
  | exact W.carry (by assumption) (by grind [W.Keep, W.Kp])
  | exact L2.SqL.of (W.carry (by assumption) (by grind [W.Keep, W.Kp]))
  | exact L2.SqT.of (W.carry (by assumption) (by grind [W.Keep, W.Kp])))
local macro_rules | `(tactic| walk_at "a") => `(tactic| first
  | assumption
  | rfl)
local macro_rules | `(tactic| walk_at "n") => `(tactic| first
  | assumption
  | exact Nat.zero_le _
  | decide
  | (simp only [List.length_cons, List.length_nil]; decide)
  | omega
  | (simp only [PySem.sizeLine_eq]; omega)
  | (simp only [List.length_map, List.length_append, List.length_cons, List.length_nil, PySem.sizeLine_eq]; omega)
  | (simp only [List.length_map, List.length_append, List.length_cons, List.length_nil, List.length_take, List.length_drop, PySem.sizeLine_eq]; omega)
  | (simp only [List.length_map, List.length_append, List.length_cons, List.length_nil, PySem.sizeLine_eq] at *; omega))
local macro_rules | `(tactic| walk_at "c") => `(tactic| first
  | assumption
  | decide
  | exact And.intro (by decide) (by decide)
  | exact Or.inr (And.intro (by decide) (by decide))
  | exact Or.inl (And.intro (by decide) (by decide))
  | exact And.intro (by decide) (And.intro (by decide) (by decide))
  | exact (show (0 : Int) < _ by decide)
  | exact And.intro (by omega) (by omega)
  | exact Or.inl (And.intro (by omega) (by omega))
  | exact Or.inr (And.intro (by omega) (by omega))
  | exact (show (0 : Int) < _ by omega))
local macro_rules | `(tactic| walk_at "v") => `(tactic| with_reducible first
  | refine W.v0 ?_ | refine W.v1 ?_ | refine W.v2 ?_ | refine W.v3 ?_ | refine W.v4 ?_ | refine W.v5 ?_ | refine W.v6 ?_ | refine W.v7 ?_ | refine W.v8 ?_
  | refine W.v9 ?_ | refine W.v10 ?_ | refine W.v11 ?_ | refine W.v12 ?_ | refine W.v13 ?_ | refine W.v14 ?_ | refine W.v15 ?_ | refine W.v16 ?_ | refine W.v17 ?_
  | refine W.g0 ?_ | refine W.g1 ?_ | refine W.g2 ?_ | refine W.g3 ?_ | refine W.g4 ?_ | refine W.g5 ?_ | refine W.g6 ?_ | refine W.g7 ?_ | refine W.g8 ?_
  | refine W.g9 ?_ | refine W.g10 ?_ | refine W.g11 ?_ | refine W.g12 ?_ | refine W.g13 ?_ | refine W.g14 ?_ | refine W.g15 ?_)
local macro_rules | `(tactic| walk_at "e") => `(tactic| with_reducible first
  | refine W.e_c ?_ | refine W.e_op ?_ | refine W.s_seq ?_ | refine W.s_asg ?_ | refine W.e_CB ?_ | refine W.a_cons ?_ | refine W.a_nil ?_ | refine W.e_call ?_
  | refine W.t_test ?_ | refine W.w_B ?_ | refine W.s_if ?_ | refine W.s_ret ?_ | refine W.s_drop ?_ | refine W.e_un ?_ | refine W.e_fld ?_ | refine W.s_fld ?_
  | refine W.e_meth ?_ | refine W.e_if ?_ | refine W.e_lst ?_ | refine W.e_tup ?_ | refine W.e_sl ?_ | refine W.o_none ?_ | refine W.o_some ?_ | refine W.w_part ?_
  | refine W.e_bm ?_ | refine W.e_bm0 ?_ | refine W.t_B ?_ | refine W.t_and ?_ | refine W.t_or ?_ | refine W.t_not ?_ | refine W.e_andV ?_ | refine W.e_orV ?_ | refine W.e_notV ?_ | refine W.w_BV ?_ | refine W.e_chain ?_
  | refine W.s_aug ?_ | refine W.s_augS ?_ | refine W.s_next ?_ | refine W.s_brk ?_ | refine W.s_cont ?_ | refine W.s_retN ?_ | refine W.s_fa ?_ | refine W.e_make ?_ | refine W.w_make ?_
  | refine W.w_I0 ?_ | refine W.w_U ?_ | refine W.w_aug ?_ | refine W.w_eqI ?_ | refine W.w_neI ?_ | refine W.w_eqS ?_ | refine W.w_neS ?_ | refine W.w_eqB ?_ | refine W.w_neB ?_
  | refine W.w_int ?_ | refine W.w_intB ?_ | refine W.w_min ?_ | refine W.w_max ?_ | refine W.w_isN ?_ | refine W.w_isI ?_ | refine W.w_isS ?_ | refine W.w_isB ?_ | refine W.w_isR ?_
  | refine W.w_notN ?_ | refine W.w_notI ?_ | refine W.w_notR ?_ | refine W.w_notS ?_ | refine W.w_eqNI ?_ | refine W.w_neNI ?_ | refine W.w_eqN ?_ | refine W.w_neN ?_
  | refine W.s_forL ?_ | refine W.s_forT ?_ | refine W.s_forS ?_ | refine W.s_forR1 ?_ | refine W.s_forR2 ?_ | refine W.s_forR3 ?_ | refine W.s_forZ ?_ | refine W.s_forE ?_
  | refine W.e_lcL ?_ | refine W.e_lcT ?_ | refine W.w_ord ?_ | refine W.e_lcR1 ?_ | refine W.e_lcR2 ?_ | refine W.e_lcZ ?_ | refine W.e_lcS ?_ | refine W.t_yes ?_ | refine W.w_gcons ?_ | refine W.w_gnil ?_ | refine W.s_par ?_ | refine W.w_par ?_ | refine W.g_sub ?_ | refine W.e_m1 ?_ | refine W.w_strR ?_ | refine W.w_rAdd ?_ | refine W.w_rSub ?_ | refine W.s_raise ?_ | refine W.s_try ?_ | refine W.e_methS ?_ | refine W.e_callS ?_)
local macro_rules | `(tactic| walk_at "w") => `(tactic| first
  | ((with_reducible refine' W.w_I ?wh ?wq); (case wh => walk_at "c"))
  | ((with_reducible refine' W.w_ixL (n := 0) ?wh ?we ?wq); (case wh => walk_at "f"); (case we => walk_at "a"))
  | ((with_reducible refine' W.w_ixT (n := 0) ?wh ?we ?wq); (case wh => walk_at "f"); (case we => walk_at "a"))
  | ((with_reducible refine' W.w_lenL ?wh ?wq); (case wh => walk_at "f"))
  | ((with_reducible refine' W.w_lenT ?wh ?wq); (case wh => walk_at "f"))
  | ((with_reducible refine' W.w_lenS ?wh ?wq); (case wh => walk_at "n"))
  | ((with_reducible refine' W.w_app ?wh ?we ?wq); (case wh => walk_at "f"); (case we => walk_at "n"))
  | ((with_reducible refine' W.w_meth ?wh ?we ?wq); (case wh => walk_at "f"); (case we => first | assumption | rfl))
  | ((with_reducible refine' W.w_ixLTl ?wh ?we ?wq); (case wh => walk_at "f"); (case we => walk_at "a"))
  | ((with_reducible refine' W.w_ixLTt ?wh ?we ?wq); (case wh => walk_at "f"); (case we => walk_at "a"))
  | ((with_reducible refine' W.w_addS ?wh ?wq); (case wh => walk_at "n"))
  | ((with_reducible refine' W.w_set ?wh ?we ?wq); (case wh => walk_at "f"); (case we => walk_at "a"))
  | ((with_reducible refine' W.w_tup ?wh ?we ?wq); (case wh => walk_at "f"); (case we => first | assumption | rfl))
  | ((with_reducible refine' W.w_slS ?wh ?wq); (case wh => walk_at "n"))
  | ((with_reducible refine' W.w_rApp ?wh ?we ?wq); (case wh => walk_at "f"); (case we => walk_at "n"))
  | ((with_reducible refine' W.w_newL ?wh ?wq); (case wh => walk_at "n"))
  | ((with_reducible refine' W.w_newT ?wh ?wq); (case wh => walk_at "n"))
  | ((with_reducible refine' W.w_listL ?wh ?wq); (case wh => walk_at "f"))
  | ((with_reducible refine' W.w_tupL ?wh ?wq); (case wh => walk_at "f"))
  | ((with_reducible refine' W.w_slL ?wh ?wq); (case wh => walk_at "f"))
  | ((with_reducible refine' W.w_cat ?wh ?wf ?we ?wq); (case wh => walk_at "f"); (case wf => walk_at "f"); (case we => walk_at "n"))
  | ((with_reducible refine' W.w_catT ?wh ?wf ?wx ?wy ?we ?wq); (case wh => walk_at "f"); (case wf => walk_at "f"); (case wx => exact List.cons_ne_nil _ _); (case wy => exact List.cons_ne_nil _ _); (case we => walk_at "n"))
  | ((with_reducible refine' W.w_ext ?wh ?wf ?we ?wq); (case wh => walk_at "f"); (case wf => walk_at "f"); (case we => walk_at "n"))
  | ((with_reducible refine' W.w_recv ?wh ?wq); (case wh => walk_at "f"))
  | ((with_reducible refine' W.w_isi1 ?wh ?we ?wq); (case wh => assumption); (case we => decide +kernel))
  | ((with_reducible refine' W.w_isi0 ?wh ?we ?wq); (case wh => assumption); (case we => decide +kernel))
  | ((with_reducible refine' W.w_isiT10 ?wh ?wf ?we ?wg ?wq); (case wh => assumption); (case wf => walk_at "f"); (case we => decide +kernel); (case wg => decide +kernel))
  | ((with_reducible refine' W.w_isiT01 ?wh ?wf ?we ?wg ?wq); (case wh => assumption); (case wf => walk_at "f"); (case we => decide +kernel); (case wg => decide +kernel))
  | ((with_reducible refine' W.w_isiT00 ?wh ?wf ?we ?wg ?wq); (case wh => assumption); (case wf => walk_at "f"); (case we => decide +kernel); (case wg => decide +kernel))
  | ((with_reducible refine' W.w_ins ?wh ?we ?wf ?wq); (case wh => walk_at "f"); (case we => walk_at "n"); (case wf => walk_at "c"))
  | ((with_reducible refine' W.w_unl ?wh ?we ?wq); (case wh => walk_at "f"); (case we => first | assumption | rfl))
  | ((with_reducible refine' W.ite_T ?_))
  | ((with_reducible refine' W.ite_F ?_))
  | ((with_reducible refine' W.ite_nT ?_))
  | ((with_reducible refine' W.ite_nF ?_))
  | ((with_reducible refine' W.ite_self ?_))
  | ((with_reducible refine' W.ite_nself ?_))
  | ((with_reducible refine' W.ite_tf ?_))
  | ((with_reducible refine' W.ite_ft ?_))
  | ((with_reducible refine' W.ite_ntf ?_))
  | ((with_reducible refine' W.ite_nft ?_))
  | ((with_reducible refine' And.intro ?wl ?wq); (case wl => rfl)))
local macro_rules | `(tactic| walk_at "i") => `(tactic| try (dsimp only [L2.cxOf, L2.wipe, List.map, List.set]))
local macro_rules | `(tactic| walk_at "s") => `(tactic| first | walk_at "v" | walk_at "e" | walk_at "w")
local macro_rules | `(tactic| walk_at "r") => `(tactic| repeat walk_at "s")

namespace My
open PySem L2 W
local macro_rules | `(tactic| walk_at "w") => `(tactic| first
  | ((with_reducible refine' W.w_getF ?wh ?wc ?wn ?wl ?wq); (case wh => walk_at "f"); (case wc => first | exact Env.c_Deeds (by assumption) | exact Env.c_Base (by assumption) | exact Env.c_Reader (by assumption)); (case wn => first | exact Env.x_Deeds_rows (by assumption) | exact Env.x_Base_commits (by assumption) | exact Env.x_Base_deeds (by assumption) | exact Env.x_Reader_data (by assumption) | exact Env.x_Reader_at (by assumption)); (case wl => first | exact lkD | exact lkB1 | exact lkB2 | exact lk1 | exact lk2))
  | ((with_reducible refine' W.w_setF ?wh ?wc ?wn ?wl ?wq); (case wh => walk_at "f"); (case wc => first | exact Env.c_Deeds (by assumption) | exact Env.c_Base (by assumption)); (case wn => first | exact Env.x_Deeds_rows (by assumption) | exact Env.x_Base_commits (by assumption) | exact Env.x_Base_deeds (by assumption)); (case wl => first | exact (show 0 < 1000 by decide) | exact (show 1 < 1000 by decide) | exact (show 2 < 1000 by decide) | exact Nat.lt_of_le_of_lt (length_putF _ _ _) (show 1 < 1000 by decide))))
variable {P : Program} {w : World} {K : PySem.W.Frag} {mg : Str → Option Value} {base : Heap} {A : Adr}
/-- what is new to H0 stays, whatever of H0 changes -/
theorem RowsN.keepN {S : List Addr} {H0 H H' : Hp} {rs : Addr} {rows : Rws} (h : RowsN H0 H rs rows) (k : Keep S H H') (n : ∀ x ∈ S, H0 x ≠ none) : RowsN H0 H' rs rows := by
  obtain ⟨ts, h1, h2, h3, h4⟩ := h
  have nn : ∀ t ∈ rs :: ts, t ∉ S := fun t ht z => n t z (h4 t ht)
  exact ⟨ts, k.get h1 (nn _ (by simp)), h2, pd_mem h3 fun x y hx h => h.mono k (nn x (by simp [hx])), h4⟩
theorem BaN.keepN {S : List Addr} {H0 H H' : Hp} {A : Adr} {b : Addr} {bs : Bs} (h : BaN H0 A H b bs) (k : Keep S H H') (n : ∀ x ∈ S, H0 x ≠ none) : BaN H0 A H' b bs := by
  obtain ⟨dx, d, h1, ⟨dx2, rs, h5, h6, h7⟩, h3, h4⟩ := h
  exact ⟨dx, d, k.get h1 (fun z => n _ z h3), ⟨dx2, rs, k.get h5 (fun z => n _ z h7), h6.keepN k n, h7⟩, h3, h4⟩
def cnts (b : Bs) : List Int := b.2.map fun r => (r.length : Int)
theorem cnts_map (b : Bs) : (b.2.map fun r => V.int (r.length : Int)) = (cnts b).map V.int := by unfold cnts; rw [List.map_map]; rfl
theorem tell_some {l : List (List Int × Nat)} {t n : Nat} {bss : List Bs} (h : tell l = some (t, bss, n)) : ∃ z0 z1 z2 r b, l = z0 :: z1 :: z2 :: r ∧ pbase z1.1 = some b ∧ bss = b :: (scan b z2.2 r).1 ∧ n = (scan b z2.2 r).2 := by
  by_cases hl : l.length < 3
  · rw [tell_short hl] at h; cases h
  obtain ⟨z0, z1, z2, r, rfl⟩ := three hl
  rw [tell_3] at h
  split at h
  · simp only [Option.bind_eq_some_iff, Option.map_eq_some_iff] at h
    obtain ⟨t', _, b, hb, e⟩ := h
    cases e
    exact ⟨z0, z1, z2, r, b, rfl, hb, rfl, rfl⟩
  · cases h
def sp_commits : Sp := fun vs H Q _ => ∃ (a : Addr) (ds : List Int) (l : List (List Int × Nat)) (t n : Nat) (bss : List Bs), vs = [.ref a] ∧ H a = some (.lst (ds.map V.int)) ∧ ds.length ≤ 400000 ∧ (∀ b ∈ ds, 0 ≤ b ∧ b < 256) ∧ Re ds 0 l ∧ tell l = some (t, bss, n) ∧
  ∀ p us H', Keep [] H H' → H' p = some (.lst us) → Lsts H' us (bss.map cnts) → Q (.ref p) H'
theorem scan_len (b : Bs) (e : Nat) (l : List (List Int × Nat)) : (scan b e l).1.length ≤ l.length := by
  induction l generalizing b e with
  | nil => exact Nat.le_refl _
  | cons z r ih =>
    cases h : note1 b z.1 with
    | none => rw [scan_none h]; exact Nat.zero_le _
    | some b' => rw [scan_some h, List.length_cons, List.length_cons]; have := ih b' z.2; omega
theorem ok_commits_of (e : Env K mg A) : FnOk P w K mg base CX0 9 A.f_commits_of A.d_commits_of ["data"] sp_commits := by
  have G_read_records := ok_read_records (P := P) (w := w) (base := base) e
  have G__read_base := ok__read_base (P := P) (w := w) (base := base) e
  have G__after_note := ok__after_note (P := P) (w := w) (base := base) e
  have G_Deeds_counts := ok_Deeds_counts (P := P) (w := w) (base := base) e
  refine e.F_commits_of.ok sc_commits_of (fun vs H Q E h => ?_) (fun cdv AA outer s H vs Q E hr h => ?_)
  · obtain ⟨a, ds, l, t, n, bss, rfl, _⟩ := h
    rfl
  · obtain ⟨a, ds, l, tn, n, bss, rfl, ha, hl, hby, hR, htell, q⟩ := h
    refine ⟨_, (pss_cons (ps_set (i := 1) sc_commits_of.nd rfl (Or.inl rfl) (pe_ix (ix_tupK (K := K)) (pe_call G_read_records (hr.mono (by omega)) (by rfl) e.m_read_records e.k_read_records e.b_read_records .nil pass0 (pa_cons (pv 0) pa_nil)) pe_int (fun _ _ => rfl)))
    (pss_cons (ps_set (i := 2) sc_commits_of.nd rfl (Or.inl rfl) (pe_call G__read_base (hr.mono (by omega)) (by rfl) e.m__read_base e.k__read_base e.b__read_base .nil passL (pa_cons (pe_ix (ix_listK (K := K)) (pv 1) pe_int (fun _ _ => rfl)) pa_nil)))
    (pss_cons (ps_set (i := 3) sc_commits_of.nd rfl (Or.inl rfl) (pe_lst (pa_cons (pe_meth0 (pe_fldK (K := K) (pv 2) rfl) e.c_Deeds e.h_Deeds_counts G_Deeds_counts (hr.mono (by omega)) e.b_Deeds_counts .nil pass0) pa_nil)))
    (pss_cons (ps_for PassesOwn.never rfl (pi_listK (K := K) (pe_slice (sl_listK (K := K)) (pv 1) (po_some pe_int) po_none)) (pg_name (i := 4) sc_commits_of.nd rfl (Or.inl rfl)) (pss_cons (ps_try1 (K := K) rfl rfl ⟨by rfl, by decide, .inl e.m_DamagedPacket⟩ takes0 (fun W pn xe tk po => (pss_one (ps_set (i := 2) sc_commits_of.nd rfl (Or.inl rfl) (pe_callS G__after_note (hr.mono (by omega)) (by rfl) e.m__after_note e.k__after_note e.b__after_note (fun σ => passAt tk σ) (pa_cons (pv 2) (pa_cons (pv 4) pa_nil)))))) (fun a oe cls d pn _ _ => (pss_one ps_break)))
    (pss_one (ps_expr (pe_bmK (K := K) PySem.F.plainAttrs_list PySem.F.slot_list_append PySem.F.type_list_append mt_append (pv 3) (pa_cons (pe_meth0 (pe_fldK (K := K) (pv 2) rfl) e.c_Deeds e.h_Deeds_counts G_Deeds_counts (hr.mono (by omega)) e.b_Deeds_counts .nil pass0) pa_nil))))))
    (pss_one (ps_ret (pv 3))))))), ?_⟩
    refine enter (st_commits_of _) ?_
    walk_at "i"
    walk_at "r"
    refine ⟨a, ds, l, rfl, ha, by omega, hR, fun t p us H1 _ k1 ht hp hL => ?_⟩
    obtain ⟨z0, z1, z2, rest, b0, rfl, hb0, rfl, rfl⟩ := tell_some htell
    have hlen := hR.len (Nat.zero_le _)
    have hslen := scan_len b0 z2.2 rest
    obtain ⟨t0, t1, t2, ur, rfl, ht0, ht1, ht2, hLr⟩ := Lsts.three hL
    have hr1 := hR.recs z1 (by simp)
    have hr3 : ∀ z ∈ rest, z.1.length ≤ ds.length ∧ (∀ b ∈ z.1, b ∈ ds) := fun z hz => hR.recs z (List.mem_cons_of_mem _ (List.mem_cons_of_mem _ (List.mem_cons_of_mem _ hz)))
    have d0 := Re.drop hby (i := 0) (z := z0) hR rfl
    have d1 := Re.drop hby (i := 1) (z := z1) hR rfl
    have d2 := Re.drop hby (i := 2) (z := z2) hR rfl
    have d3 : ∀ i z, rest[i]? = some z → z.2 = lastE z2.2 (rest.take i) + (My.rec z.1).length ∧ z.2 ≤ ds.length := fun i z h => Re.drop hby (i := i + 3) (z := z) hR (by simpa using h)
    simp only [List.take_succ_cons, List.take_zero, lastE] at d0 d1 d2
    have at1 : atI (.ref t0 :: .ref t1 :: .ref t2 :: ur : List V) 1 = some (.ref t1) := atI_nat (j := 1) rfl
    have hurl : ur.length = rest.length := by rw [hLr.len, List.length_map]
    obtain ⟨hb8, hbl⟩ := pbase_ok hb0
    clear hL ht0 ht2
    walk_at "r"
    refine ⟨t1, z1.1, rfl, ht1, by omega, fun b0' hb0' b H2 k2 hB => ?_, fun h => by rw [hb0] at h; cases h⟩
    rw [hb0] at hb0'
    cases hb0'
    have hB2 := hB.any
    have hB2' := hB2
    obtain ⟨dxb, dd, hbb, hDD, _, _⟩ := hB2'
    have hDD' := hDD
    obtain ⟨dxd, rsd, hdd, _⟩ := hDD'
    have hlk3 : (deF rsd).lookup ("counts" : Str) = none := lkDn (by decide +kernel)
    have hp2 := k2.get hp (by simp)
    have hLr2 := hLr.mono k2
    have k12 := k1.trans k2
    clear ht1 hb0 hB hp hLr k1 k2 ht
    walk_at "r"
    refine ⟨dd, b0.2, rfl, hDD, hb8, fun cn H3 nc k3 hcn => ?_⟩
    rw [cnts_map] at hcn
    have hB3 := hB2.mono k3
    have hp3 := k3.get hp2 (by simp)
    have hLr3 := hLr2.mono k3
    clear hbb hdd hDD hlk3 hp2 hLr2 hB2
    walk_at "r"
    intro F H4 nF k4 hF
    have hF4 : Lsts H4 [.ref cn] ([b0].map cnts) := Paired.cons ⟨cn, rfl, k4.get hcn (by simp)⟩ Paired.nil
    have hp4 := k4.get hp3 (by simp)
    have hB4 := hB3.mono k4
    have hLr4 := hLr3.mono k4
    have k14 := k12.trans (k3.trans k4)
    have nF0 : H F = none := (k12.trans k3).free nF (by simp)
    clear hcn hp3 hB3 hLr3 k12 k3 k4
    walk_at "r"
    rw [cut3_from]
    intro sl2 H5 n5 k5 hsl2
    have hF5 := k5.get hF (by simp)
    have hL5 := hF4.mono k5
    have hB5 := hB4.mono k5
    have hLr5 := hLr4.mono k5
    have k15 := k14.trans k5
    have nFs : F ≠ sl2 := ne_of_none hF n5
    clear hF hF4 hB4 hLr4 hp4
    walk_at "r"
    refine forL (SqL.of hsl2) (fun i σ H' => ∃ (b' : Addr) (bs' : Bs) (e' : Nat) (v4 : Option V) (pre : List Bs) (us : List V), σ = [some (.ref a), some (.ref p), some (.ref b'), some (.ref F), v4] ∧ Keep [F] H5 H' ∧ Keep [] H H' ∧ Ba A H' b' bs' ∧ bs'.2.length = 8 ∧ (∀ row ∈ bs'.2, row.length ≤ e') ∧ e' = lastE z2.2 (rest.take i) ∧ e' ≤ ds.length ∧
        (scan b0 z2.2 rest).1 = pre ++ (scan bs' e' (rest.drop i)).1 ∧ H' F = some (.lst us) ∧ Lsts H' us ((b0 :: pre).map cnts))
      ⟨b, b0, z2.2, _, [], _, rfl, Keep.refl, k15, hB5, hb8, fun row hrow => Nat.le_trans (hbl row hrow) ?_, rfl, d2.2, rfl, hF5, hL5⟩ (fun i σ H' _ h => ?_) ?_ ?_
    · have := rec_len z1.1
      omega
    · obtain ⟨_, _, _, _, _, _, _, k, _⟩ := h
      exact SqL.of (k.get hsl2 (by simp [Ne.symm nFs]))
    · rintro i x σ H8 hx ⟨b', bs', e', v4, pre, us, rfl, k8, kH8, hB8, h8, hbd, he', hel, hsc, hF8, hL8⟩
      obtain ⟨y, hy, t', rfl, ht'⟩ := pd_get hLr5 hx
      rw [List.getElem?_map, Option.map_eq_some_iff] at hy
      obtain ⟨z, hz, rfl⟩ := hy
      have hzm := hr3 z (List.mem_of_getElem? hz)
      obtain ⟨dz1, dz2⟩ := d3 i z hz
      rw [← he'] at dz1
      have hdr : rest.drop i = z :: rest.drop (i + 1) := by
        have hil := (List.getElem?_eq_some_iff.mp hz).1
        rw [List.drop_eq_getElem_cons hil]
        congr 1
        exact (List.getElem?_eq_some_iff.mp hz).2
      rw [hdr] at hsc
      have nFt : t' ≠ F := fun h => by
        subst h
        rw [hF5] at ht'
        cases hzz : z.1 with
        | nil => rw [hzz] at ht'; cases ht'
        | cons x r => rw [hzz] at ht'; cases ht'
      have ht8 := k8.get ht' (by simp [nFt])
      have hul := hL8.len
      have hpl : pre.length ≤ rest.length := by
        have := congrArg List.length hsc
        rw [List.length_append] at this
        omega
      rw [List.length_map, List.length_cons] at hul
      have hrl : rest.length ≤ 400000 := by simp only [List.length_cons] at hlen; omega
      walk_at "r"
      refine ⟨b', t', bs', z.1, e', rfl, hB8, h8, hbd, ht8, by omega, fun bs2 hn c H9 k9 hc => ?_, fun hn H9 k9 => w_only (exm_D e) (fun x _ => ?_)⟩
      · rw [scan_some hn] at hsc
        obtain ⟨n8, nbd⟩ := note1_ok hn h8 hbd
        have hrcl := rec_len z.1
        have hc9 := hc.any
        have hc9' := hc9
        obtain ⟨dxc, dc, hcc, hDc, _, _⟩ := hc9'
        have hDc' := hDc
        obtain ⟨dxd, rsd, hdd, _⟩ := hDc'
        have hlk3 : (deF rsd).lookup ("counts" : Str) = none := lkDn (by decide +kernel)
        have hF9 := k9.get hF8 (by simp)
        walk_at "r"
        refine ⟨dc, bs2.2, rfl, hDc, n8, fun cn H10 nc k10 hcn => ?_⟩
        rw [cnts_map] at hcn
        have hF10 := k10.get hF9 (by simp)
        have nFc : F ≠ cn := ne_of_none hF9 nc
        clear hcc hdd hDc
        walk_at "r"
        intro H11 k11 h11
        have hnew : Lsts H11 (us ++ [.ref cn]) ((b0 :: (pre ++ [bs2])).map cnts) := by
          rw [← List.cons_append, List.map_append]
          exact Paired.snoc (Lsts.mut hF10 k11 (hL8.mono (k9.trans k10))) ⟨cn, rfl, k11.get hcn (by simp [Ne.symm nFc])⟩
        refine ⟨c, bs2, z.2, some (.ref t'), pre ++ [bs2], _, rfl, k8.trans (k9.any.trans (k10.any.trans k11)), (kH8.trans (k9.trans k10)).mut nF0 k11, ?_, n8, fun row hrow => by have := nbd row hrow; omega, ?_, dz2, by rw [hsc, List.append_assoc]; rfl, h11, hnew⟩
        · exact ((hc.mono k10).keepN k11 (fun x hx => by rw [List.mem_singleton] at hx; subst hx; rw [hF8]; simp)).any
        · rw [List.take_add_one, hz]
          exact (lastE_snoc z _ _).symm
      · rw [scan_none hn, List.append_nil] at hsc
        walk_at "r"
        rw [hsc] at q
        exact q F us H9 (kH8.trans k9) (k9.get hF8 (by simp)) (hL8.mono k9)
    · rintro σ H8 ⟨b', bs', e', v4, pre, us, rfl, k8, kH8, hB8, h8, hbd, he', hel, hsc, hF8, hL8⟩
      rw [hurl, List.drop_length] at hsc
      have hsc : (scan b0 z2.2 rest).1 = pre ++ [] := hsc
      rw [List.append_nil] at hsc
      walk_at "r"
      rw [hsc] at q
      exact q F us H8 kH8 hF8 hL8
/-- the file that counts -/
def cfV (x y : Option (Nat × List Bs × Nat)) : V :=
  match x, y with
  | none, none => .non
  | none, some _ => .int 1
  | some _, none => .int 0
  | some a, some b => if a.1 < b.1 then .int 1 else .int 0
def sp_cfile : Sp := fun vs H Q _ => ∃ (a1 a2 : Addr) (d1 d2 : List Int) (l1 l2 : List (List Int × Nat)), vs = [.ref a1, .ref a2] ∧ H a1 = some (.lst (d1.map V.int)) ∧ d1.length ≤ 400000 ∧ (∀ b ∈ d1, 0 ≤ b ∧ b < 256) ∧ Re d1 0 l1 ∧
  H a2 = some (.lst (d2.map V.int)) ∧ d2.length ≤ 400000 ∧ (∀ b ∈ d2, 0 ≤ b ∧ b < 256) ∧ Re d2 0 l2 ∧ ∀ H', Keep [] H H' → Q (cfV (tell l1) (tell l2)) H'
theorem ok_counting_file (e : Env K mg A) : FnOk P w K mg base CX0 10 A.f_counting_file A.d_counting_file ["first", "second"] sp_cfile := by
  have G_read_log := ok_read_log (P := P) (w := w) (base := base) e
  refine e.F_counting_file.ok sc_counting_file (fun vs H Q E h => ?_) (fun cdv AA outer s H vs Q E hr h => ?_)
  · obtain ⟨a1, a2, d1, d2, l1, l2, rfl, _⟩ := h
    rfl
  · obtain ⟨a1, a2, d1, d2, l1, l2, rfl, h1, b1, c1, R1, h2, b2, c2, R2, q⟩ := h
    refine ⟨_, (pss_cons (ps_set (i := 2) sc_counting_file.nd rfl (Or.inl rfl) (pe_call G_read_log (hr.mono (by omega)) (by rfl) e.m_read_log e.k_read_log e.b_read_log .nil pass0 (pa_cons (pv 0) pa_nil)))
    (pss_cons (ps_set (i := 3) sc_counting_file.nd rfl (Or.inl rfl) (pe_call G_read_log (hr.mono (by omega)) (by rfl) e.m_read_log e.k_read_log e.b_read_log .nil pass0 (pa_cons (pv 1) pa_nil)))
    (pss_cons (ps_if (PW.pt (pw_and (pt_cmpR op_isNo (pv 2) pe_non (nomark _)) (pw_and1 (pt_cmpR op_isNo (pv 3) pe_non (nomark _))))) (pss_one (ps_ret pe_non)) pss_nil)
    (pss_cons (ps_if (PW.pt (pw_or (pt_cmpR op_isNo (pv 2) pe_non (nomark _)) (pw_or1 (PW.pt (pw_and (pt_cmpR op_isNot (pv 3) pe_non (nomark _)) (pw_and1 (pt_cmpR op_gt (pe_ix (ix_tupK (K := K)) (pv 3) pe_int (fun _ _ => rfl)) (pe_ix (ix_tupK (K := K)) (pv 2) pe_int (fun _ _ => rfl)) (nomark _)))))))) (pss_one (ps_ret pe_int)) pss_nil)
    (pss_one (ps_ret pe_int)))))), ?_⟩
    refine enter (st_counting_file _ _) ?_
    walk_at "i"
    walk_at "r"
    refine ⟨a1, d1, l1, rfl, h1, b1, c1, R1, fun v1 H1 k1 hv1 => ?_⟩
    walk_at "r"
    refine ⟨a2, d2, l2, rfl, k1.get h2 (by simp), b2, c2, R2, fun v2 H2 k2 hv2 => ?_⟩
    have k12 := k1.trans k2
    have q2 := q H2 k12
    cases hz1 : tell l1 with
    | none =>
      rw [hz1] at hv1 q2
      obtain rfl : v1 = .non := hv1
      cases hz2 : tell l2 with
      | none =>
        rw [hz2] at hv2 q2
        obtain rfl : v2 = .non := hv2
        walk_at "r"
        exact q2
      | some y =>
        obtain ⟨t2, bss2, n2⟩ := y
        rw [hz2] at hv2 q2
        obtain ⟨u2, c2, rfl, hu2, _⟩ := hv2
        walk_at "r"
        exact q2
    | some x =>
      obtain ⟨t1, bss1, n1⟩ := x
      rw [hz1] at hv1 q2
      obtain ⟨u1, c1, rfl, hu1, _⟩ := hv1
      have hu12 := k2.get hu1 (by simp)
      cases hz2 : tell l2 with
      | none =>
        rw [hz2] at hv2 q2
        obtain rfl : v2 = .non := hv2
        walk_at "r"
        exact q2
      | some y =>
        obtain ⟨t2, bss2, n2⟩ := y
        rw [hz2] at hv2 q2
        obtain ⟨u2, c2, rfl, hu2, _⟩ := hv2
        walk_at "r"
        refine ite_dec (fun h => ?_) (fun h => ?_)
        · walk_at "r"
          have e1 : cfV (some (t1, bss1, n1)) (some (t2, bss2, n2)) = .int 1 := by
            show (if t1 < t2 then V.int 1 else V.int 0) = _
            rw [if_pos (by omega)]
          rw [e1] at q2
          exact q2
        · walk_at "r"
          have e1 : cfV (some (t1, bss1, n1)) (some (t2, bss2, n2)) = .int 0 := by
            show (if t1 < t2 then V.int 1 else V.int 0) = _
            rw [if_neg (by omega)]
          rw [e1] at q2
          exact q2
end My

end
section
set_option maxHeartbeats 4000000
local macro_rules | `(tactic| walk_at "k") => `(tactic| first
  | assumption
  | exact W.Keep.trans (by assumption) (by assumption)
  | exact And.intro (by grind [W.Keep, W.Kp]) (by grind [W.Keep, W.Kt])
  | grind [W.Keep, W.Kp])
local macro_rules | `(tactic| walk_at "f") => `(tactic| first
  | assumption
  | exact L2.SqL.of (by assumption)
  | exact L2.SqT.of (by assumption)
  | exact L2.SqL.of L2.upd_same
  | exact L2.SqT.of L2.upd_same
  | exact L2.upd_same
  | exact W.carryL (by assumption) (by assumption)
  | exact W.carryL (by assumption) (by walk_at "k")
  | exact W.carryT (by assumption) (by walk_at "k")
  | exact W.carry (by assumption) (by grind [W.Keep, W.Kp])
  | exact L2.SqL.of (W.carry (by assumption) (by grind [W.Keep, W.Kp]))
  | exact L2.SqT.of (W.carry (by assumption) (by grind [W.Keep, W.Kp])))
local macro_rules | `(tactic| walk_at "a") => `(tactic| first
  | assumption
  | rfl)
local macro_rules | `(tactic| walk_at "n") => `(tactic| first
  | assumption
  | exact Nat.zero_le _
  | decide
  | (simp only [List.length_cons, List.length_nil]; decide)
  | omega
  | (simp only [PySem.sizeLine_eq]; omega)
  | (simp only [List.length_map, List.length_append, List.length_cons, List.length_nil, PySem.sizeLine_eq]; omega)
  | (simp only [List.length_map, List.length_append, List.length_cons, List.length_nil, List.length_take, List.length_drop, PySem.sizeLine_eq]; omega)
  | (simp only [List.length_map, List.length_append, List.length_cons, List.length_nil, PySem.sizeLine_eq] at *; omega))
local macro_rules | `(tactic| walk_at "c") => `(tactic| first
  | assumption
  | decide
  | exact And.intro (by decide) (by decide)
  | exact Or.inr (And.intro (by decide) (by decide))
  | exact Or.inl (And.intro (by decide) (by decide))
  | exact And.intro (by decide) (And.intro (by decide) (by decide))
  | exact (show (0 : Int) < _ by decide)
  | exact And.intro (by omega) (by omega)
  | exact Or.inl (And.intro (by omega) (by omega))
  | exact Or.inr (And.intro (by omega) (by omega))
  | exact (show (0 : Int) < _ by omega))
local macro_rules | `(tactic| walk_at "v") => `(tactic| with_reducible first
  | refine W.v0 ?_ | refine W.v1 ?_ | refine W.v2 ?_ | refine W.v3 ?_ | refine W.v4 ?_ | refine W.v5 ?_ | refine W.v6 ?_ | refine W.v7 ?_ | refine W.v8 ?_
  | refine W.v9 ?_ | refine W.v10 ?_ | refine W.v11 ?_ | refine W.v12 ?_ | refine W.v13 ?_ | refine W.v14 ?_ | refine W.v15 ?_ | refine W.v16 ?_ | refine W.v17 ?_
  | refine W.g0 ?_ | refine W.g1 ?_ | refine W.g2 ?_ | refine W.g3 ?_ | refine W.g4 ?_ | refine W.g5 ?_ | refine W.g6 ?_ | refine W.g7 ?_ | refine W.g8 ?_
  | refine W.g9 ?_ | refine W.g10 ?_ | refine W.g11 ?_ | refine W.g12 ?_ | refine W.g13 ?_ | refine W.g14 ?_ | refine W.g15 ?_)
local macro_rules | `(tactic| walk_at "e") => `(tactic| with_reducible first
  | refine W.e_c ?_ | refine W.e_op ?_ | refine W.s_seq ?_ | refine W.s_asg ?_ | refine W.e_CB ?_ | refine W.a_cons ?_ | refine W.a_nil ?_ | refine W.e_call ?_
  | refine W.t_test ?_ | refine W.w_B ?_ | refine W.s_if ?_ | refine W.s_ret ?_ | refine W.s_drop ?_ | refine W.e_un ?_ | refine W.e_fld ?_ | refine W.s_fld ?_
  | refine W.e_meth ?_ | refine W.e_if ?_ | refine W.e_lst ?_ | refine W.e_tup ?_ | refine W.e_sl ?_ | refine W.o_none ?_ | refine W.o_some ?_ | refine W.w_part ?_
  | refine W.e_bm ?_ | refine W.e_bm0 ?_ | refine W.t_B ?_ | refine W.t_and ?_ | refine W.t_or ?_ | refine W.t_not ?_ | refine W.e_andV ?_ | refine W.e_orV ?_ | refine W.e_notV ?_ | refine W.w_BV ?_ | refine W.e_chain ?_
  | refine W.s_aug ?_ | refine W.s_augS ?_ | refine W.s_next ?_ | refine W.s_brk ?_ | refine W.s_cont ?_ | refine W.s_retN ?_ | refine W.s_fa ?_ | refine W.e_make ?_ | refine W.w_make ?_
  | refine W.w_I0 ?_ | refine W.w_U ?_ | refine W.w_aug ?_ | refine W.w_eqI ?_ | refine W.w_neI ?_ | refine W.w_eqS ?_ | refine W.w_neS ?_ | refine W.w_eqB ?_ | refine W.w_neB ?_
  | refine W.w_int ?_ | refine W.w_intB ?_ | refine W.w_min ?_ | refine W.w_max ?_ | refine W.w_isN ?_ | refine W.w_isI ?_ | refine W.w_isS ?_ | refine W.w_isB ?_ | refine W.w_isR ?_
  | refine W.w_notN ?_ | refine W.w_notI ?_ | refine W.w_notR ?_ | refine W.w_notS ?_ | refine W.w_eqNI ?_ | refine W.w_neNI ?_ | refine W.w_eqN ?_ | refine W.w_neN ?_
  | refine W.s_forL ?_ | refine W.s_forT ?_ | refine W.s_forS ?_ | refine W.s_forR1 ?_ | refine W.s_forR2 ?_ | refine W.s_forR3 ?_ | refine W.s_forZ ?_ | refine W.s_forE ?_
  | refine W.e_lcL ?_ | refine W.e_lcT ?_ | refine W.w_ord ?_ | refine W.e_lcR1 ?_ | refine W.e_lcR2 ?_ | refine W.e_lcZ ?_ | refine W.e_lcS ?_ | refine W.t_yes ?_ | refine W.w_gcons ?_ | refine W.w_gnil ?_ | refine W.s_par ?_ | refine W.w_par ?_ | refine W.g_sub ?_ | refine W.e_m1 ?_ | refine W.w_strR ?_ | refine W.w_rAdd ?_ | refine W.w_rSub ?_ | refine W.s_raise ?_ | refine W.s_try ?_ | refine W.e_methS ?_ | refine W.e_callS ?_)
local macro_rules | `(tactic| walk_at "w") => `(tactic| first
  | ((with_reducible refine' W.w_I ?wh ?wq); (case wh => walk_at "c"))
  | ((with_reducible refine' W.w_ixL (n := 0) ?wh ?we ?wq); (case wh => walk_at "f"); (case we => walk_at "a"))
  | ((with_reducible refine' W.w_ixT (n := 0) ?wh ?we ?wq); (case wh => walk_at "f"); (case we => walk_at "a"))
  | ((with_reducible refine' W.w_lenL ?wh ?wq); (case wh => walk_at "f"))
  | ((with_reducible refine' W.w_lenT ?wh ?wq); (case wh => walk_at "f"))
  | ((with_reducible refine' W.w_lenS ?wh ?wq); (case wh => walk_at "n"))
  | ((with_reducible refine' W.w_app ?wh ?we ?wq); (case wh => walk_at "f"); (case we => walk_at "n"))
  | ((with_reducible refine' W.w_meth ?wh ?we ?wq); (case wh => walk_at "f"); (case we => first | assumption | rfl))
  | ((with_reducible refine' W.w_ixLTl ?wh ?we ?wq); (case wh => walk_at "f"); (case we => walk_at "a"))
  | ((with_reducible refine' W.w_ixLTt ?wh ?we ?wq); (case wh => walk_at "f"); (case we => walk_at "a"))
  | ((with_reducible refine' W.w_addS ?wh ?wq); (case wh => walk_at "n"))
  | ((with_reducible refine' W.w_set ?wh ?we ?wq); (case wh => walk_at "f"); (case we => walk_at "a"))
  | ((with_reducible refine' W.w_tup ?wh ?we ?wq); (case wh => walk_at "f"); (case we => first | assumption | rfl))
  | ((with_reducible refine' W.w_slS ?wh ?wq); (case wh => walk_at "n"))
  | ((with_reducible refine' W.w_rApp ?wh ?we ?wq); (case wh => walk_at "f"); (case we => walk_at "n"))
  | ((with_reducible refine' W.w_newL ?wh ?wq); (case wh => walk_at "n"))
  | ((with_reducible refine' W.w_newT ?wh ?wq); (case wh => walk_at "n"))
  | ((with_reducible refine' W.w_listL ?wh ?wq); (case wh => walk_at "f"))
  | ((with_reducible refine' W.w_tupL ?wh ?wq); (case wh => walk_at "f"))
  | ((with_reducible refine' W.w_slL ?wh ?wq); (case wh => walk_at "f"))
  | ((with_reducible refine' W.w_cat ?wh ?wf ?we ?wq); (case wh => walk_at "f"); (case wf => walk_at "f"); (case we => walk_at "n"))
  | ((with_reducible refine' W.w_catT ?wh ?wf ?wx ?wy ?we ?wq); (case wh => walk_at "f"); (case wf => walk_at "f"); (case wx => exact List.cons_ne_nil _ _); (case wy => exact List.cons_ne_nil _ _); (case we => walk_at "n"))
  | ((with_reducible refine' W.w_ext ?wh ?wf ?we ?wq); (case wh => walk_at "f"); (case wf => walk_at "f"); (case we => walk_at "n"))
  | ((with_reducible refine' W.w_recv ?wh ?wq); (case wh => walk_at "f"))
  | ((with_reducible refine' W.w_isi1 ?wh ?we ?wq); (case wh => assumption); (case we => decide +kernel))
  | ((with_reducible refine' W.w_isi0 ?wh ?we ?wq); (case wh => assumption); (case we => decide +kernel))
  | ((with_reducible refine' W.w_isiT10 ?wh ?wf ?we ?wg ?wq); (case wh => assumption); (case wf => walk_at "f"); (case we => decide +kernel); (case wg => decide +kernel))
  | ((with_reducible refine' W.w_isiT01 ?wh ?wf ?we ?wg ?wq); (case wh => assumption); (case wf => walk_at "f"); (case we => decide +kernel); (case wg => decide +kernel))
  | ((with_reducible refine' W.w_isiT00 ?wh ?wf ?we ?wg ?wq); (case wh => assumption); (case wf => walk_at "f"); (case we => decide +kernel); (case wg => decide +kernel))
  | ((with_reducible refine' W.w_ins ?wh ?we ?wf ?wq); (case wh => walk_at "f"); (case we => walk_at "n"); (case wf => walk_at "c"))
  | ((with_reducible refine' W.w_unl ?wh ?we ?wq); (case wh => walk_at "f"); (case we => first | assumption | rfl))
  | ((with_reducible refine' W.ite_T ?_))
  | ((with_reducible refine' W.ite_F ?_))
  | ((with_reducible refine' W.ite_nT ?_))
  | ((with_reducible refine' W.ite_nF ?_))
  | ((with_reducible refine' W.ite_self ?_))
  | ((with_reducible refine' W.ite_nself ?_))
  | ((with_reducible refine' W.ite_tf ?_))
  | ((with_reducible refine' W.ite_ft ?_))
  | ((with_reducible refine' W.ite_ntf ?_))
  | ((with_reducible refine' W.ite_nft ?_))
  | ((with_reducible refine' And.intro ?wl ?wq); (case wl => rfl)))
local macro_rules | `(tactic| walk_at "i") => `(tactic| try (dsimp only [L2.cxOf, L2.wipe, List.map, List.set]))
local macro_rules | `(tactic| walk_at "s") => `(tactic| first | walk_at "v" | walk_at "e" | walk_at "w")
local macro_rules | `(tactic| walk_at "r") => `(tactic| repeat walk_at "s")

namespace My
open PySem L2 W
variable {P : Program} {w : World} {K : PySem.W.Frag} {mg : Str → Option Value} {base : Heap} {A : Adr}
theorem ok__law_sum (e : Env K mg A) : FnOk P w K mg base CX0 1 A.f__law_sum A.d__law_sum ["data"] (sp_ck K) := by
  refine e.F__law_sum.ok sc__law_sum (fun vs H Q E h => ?_) (fun cdv AA outer s H vs Q E hr h => ?_)
  · obtain ⟨a, ds, rfl, _⟩ := h
    rfl
  · obtain ⟨a, ds, rfl, ha, q⟩ := h
    refine ⟨_, (pss_cons (ps_set (i := 1) sc__law_sum.nd rfl (Or.inl rfl) pe_int)
    (pss_cons (ps_for PassesOwn.never rfl (pi_listK (K := K) (pv 0)) (pg_name (i := 2) sc__law_sum.nd rfl (Or.inl rfl)) (pss_one (ps_set (i := 1) sc__law_sum.nd rfl (Or.inl rfl) (pe_op op_mod (pe_op op_add (pe_op op_add (pe_op op_mul pe_int (pv 1)) (pv 2)) pe_int) (pe_op op_pow pe_int pe_int)))))
    (pss_one (ps_ret (pv 1))))), ?_⟩
    refine enter (st__law_sum _) ?_
    walk_at "i"
    walk_at "r"
    refine forL (SqL.of ha) (fun i σ H' => ∃ v2, σ = [some (.ref a), some (.int (ck (ds.take i))), v2] ∧ H' = H) ⟨_, rfl, rfl⟩ (fun i σ H' _ h => ?_) ?_ ?_
    · obtain ⟨_, _, rfl⟩ := h
      exact SqL.of ha
    · rintro i x σ H' hx ⟨v2, rfl, rfl⟩
      rw [List.getElem?_map] at hx
      cases hb : ds[i]? with
      | none => rw [hb] at hx; cases hx
      | some b =>
        rw [hb] at hx
        cases hx
        have hr := ck_rng (ds.take i)
        walk_at "r"
        refine ⟨some (.int b), ?_, rfl⟩
        rw [List.take_add_one, hb]
        show _ = [_, some (V.int (ck (ds.take i ++ [b]))), _]
        rw [ck_snoc]; rfl
    · rintro σ H' ⟨v2, rfl, rfl⟩
      walk_at "r"
      rw [List.length_map, List.take_length]
      exact q
theorem ok__law_record (e : Env K mg A) : FnOk P w K mg base CX0 2 A.f__law_record A.d__law_record ["data"] (sp_wr K) := by
  have G__law_sum := ok__law_sum (P := P) (w := w) (base := base) e
  have G_write_number := ok_write_number (P := P) (w := w) (base := base) e
  refine e.F__law_record.ok sc__law_record (fun vs H Q E h => ?_) (fun cdv AA outer s H vs Q E hr h => ?_)
  · obtain ⟨a, ds, rfl, _⟩ := h
    rfl
  · obtain ⟨a, ds, rfl, ha, hl, q⟩ := h
    refine ⟨_, (pss_cons (ps_set (i := 1) sc__law_record.nd rfl (Or.inl rfl) (pe_call G__law_sum (hr.mono (by omega)) (by rfl) e.m__law_sum e.k__law_sum e.b__law_sum .nil pass0 (pa_cons (pv 0) pa_nil)))
    (pss_one (ps_ret (pe_op op_cat (pe_op op_cat (pe_call G_write_number (hr.mono (by omega)) (by rfl) e.m_write_number e.k_write_number e.b_write_number .nil pass0 (pa_cons (pe_callB (call_lenLK (K := K)) (by rfl) e.n_len (by decide +kernel) (pa_cons (pv 0) pa_nil)) pa_nil)) (pv 0)) (pe_lst (pa_cons (pe_op op_fdiv (pv 1) (pe_op op_pow pe_int pe_int)) (pa_cons (pe_op op_mod (pe_op op_fdiv (pv 1) (pe_op op_pow pe_int pe_int)) pe_int) (pa_cons (pe_op op_mod (pe_op op_fdiv (pv 1) (pe_op op_pow pe_int pe_int)) pe_int) (pa_cons (pe_op op_mod (pv 1) pe_int) pa_nil))))))))), ?_⟩
    refine enter (st__law_record _) ?_
    walk_at "i"
    walk_at "r"
    refine ⟨a, ds, rfl, ha, ?_⟩
    have hr := ck_rng ds
    have hwl := wn_len3 hl
    walk_at "r"
    refine ⟨ds.length, by rw [List.length_map]; rfl, lt60 hl, fun n H2 nn k2 hn => ?_⟩
    walk_at "r"
    intro b H4 nb k4 hb
    walk_at "r"
    intro t H1 nt k1 ht
    walk_at "r"
    have hb1 := k1.get hb (by simp)
    intro r H5 nr k5 hr5
    walk_at "r"
    refine q r H5 ?_ (k2.trans (k4.trans (k1.trans k5))) ?_
    · exact (k2.trans (k4.trans k1)).free nr (by simp)
    · rw [hr5]
      unfold My.rec tl4
      simp only [List.map_append, List.map_cons, List.map_nil]
      rfl
/-- records with their ends -/
def RecsV (H : Hp) (us : List V) (l : List (List Int × Nat)) : Prop := Paired (fun v z => ∃ t r, v = V.ref t ∧ H t = some (.tup [.ref r, .int (z.2 : Int)]) ∧ H r = some (.lst (z.1.map V.int))) us l
theorem RecsV.mono {H H' : Hp} {us : List V} {l : List (List Int × Nat)} (h : RecsV H us l) (k : Keep [] H H') : RecsV H' us l := Paired.mapP h fun _ _ ⟨t, r, e, h1, h2⟩ => ⟨t, r, e, k.get h1 (by simp), k.get h2 (by simp)⟩
theorem RecsV.mut {H H' : Hp} {p : Addr} : ∀ {us : List V} {l : List (List Int × Nat)}, H p = some (.lst us) → Keep [p] H H' → RecsV H us l → RecsV H' us l := by
  intro us l hp k h
  have n : us ≠ [] → ∀ x : List Int, us ≠ x.map V.int := by
    intro hv x e
    unfold RecsV at h
    cases h with
    | nil => exact hv rfl
    | cons hd _ =>
      obtain ⟨t, r, rfl, _⟩ := hd
      cases x with
      | nil => cases e
      | cons y r => cases e
  by_cases hv : us = []
  · subst hv
    unfold RecsV at h ⊢
    cases h
    exact .nil
  · exact Paired.mapP h fun _ _ ⟨t, r, e, h1, h2⟩ => ⟨t, r, e, k.2 _ _ h1, k.get h2 (by
      intro z; simp at z; subst z; rw [hp] at h2; cases h2; exact n hv _ rfl)⟩
def sp_lrecs : Sp := fun vs H Q _ => ∃ (a : Addr) (ds : List Int) (l : List (List Int × Nat)), vs = [.ref a] ∧ H a = some (.lst (ds.map V.int)) ∧ ds.length ≤ 400000 ∧ (∀ b ∈ ds, 0 ≤ b ∧ b < 256) ∧ Re ds 0 l ∧
  ∀ p us H', H p = none → Keep [] H H' → H' p = some (.lst us) → RecsV H' us l → Q (.ref p) H'
theorem ok__law_records (e : Env K mg A) : FnOk P w K mg base CX0 3 A.f__law_records A.d__law_records ["data"] sp_lrecs := by
  have G__law_read_number := ok__law_read_number (P := P) (w := w) (base := base) e
  have G__law_record := ok__law_record (P := P) (w := w) (base := base) e
  refine e.F__law_records.ok sc__law_records (fun vs H Q E h => ?_) (fun cdv AA outer s H vs Q E hr h => ?_)
  · obtain ⟨a, ds, l, rfl, _⟩ := h
    rfl
  · obtain ⟨a, ds, l, rfl, ha, hl, hby, hR, q⟩ := h
    have hnn : ∀ b ∈ ds, 0 ≤ b := fun b hb => (hby b hb).1
    have hlen := hR.len (Nat.zero_le _)
    refine ⟨_, (pss_cons (ps_set (i := 1) sc__law_records.nd rfl (Or.inl rfl) (pe_lst pa_nil))
    (pss_cons (ps_set (i := 2) sc__law_records.nd rfl (Or.inl rfl) pe_int)
    (pss_cons (ps_set (i := 3) sc__law_records.nd rfl (Or.inl rfl) (pe_call G__law_read_number (hr.mono (by omega)) (by rfl) e.m__law_read_number e.k__law_read_number e.b__law_read_number .nil pass0 (pa_cons (pv 0) (pa_cons (pv 2) pa_nil))))
    (pss_cons (ps_while PassesOwn.never (pt_cmpR op_isNot (pv 3) pe_non (nomark _)) (pss_cons (ps_set (i := 4) sc__law_records.nd rfl (Or.inl rfl) (pe_op op_add (pe_op op_add (pe_ix (ix_tupK (K := K)) (pv 3) pe_int (fun _ _ => rfl)) (pe_ix (ix_tupK (K := K)) (pv 3) pe_int (fun _ _ => rfl))) pe_int))
    (pss_cons (ps_set (i := 5) sc__law_records.nd rfl (Or.inl rfl) (pe_slice (sl_listK (K := K)) (pv 0) (po_some (pe_ix (ix_tupK (K := K)) (pv 3) pe_int (fun _ _ => rfl))) (po_some (pe_op op_add (pe_ix (ix_tupK (K := K)) (pv 3) pe_int (fun _ _ => rfl)) (pe_ix (ix_tupK (K := K)) (pv 3) pe_int (fun _ _ => rfl))))))
    (pss_cons (ps_if (PW.pt (pw_or (pt_cmpR op_gt (pv 4) (pe_callB (call_lenLK (K := K)) (by rfl) e.n_len (by decide +kernel) (pa_cons (pv 0) pa_nil)) (nomark _)) (pw_or1 (pt_cmpR (op_neDK hr.units (K := K)) (pe_slice (sl_listK (K := K)) (pv 0) (po_some (pv 2)) (po_some (pv 4))) (pe_call G__law_record (hr.mono (by omega)) (by rfl) e.m__law_record e.k__law_record e.b__law_record .nil pass0 (pa_cons (pv 5) pa_nil)) (nomark _))))) (pss_one ps_break) pss_nil)
    (pss_cons (ps_expr (pe_bmK (K := K) PySem.F.plainAttrs_list PySem.F.slot_list_append PySem.F.type_list_append mt_append (pv 1) (pa_cons (pe_tup (pa_cons (pv 5) (pa_cons (pv 4) pa_nil))) pa_nil)))
    (pss_cons (ps_set (i := 2) sc__law_records.nd rfl (Or.inl rfl) (pv 4))
    (pss_one (ps_set (i := 3) sc__law_records.nd rfl (Or.inl rfl) (pe_call G__law_read_number (hr.mono (by omega)) (by rfl) e.m__law_read_number e.k__law_read_number e.b__law_read_number .nil pass0 (pa_cons (pv 0) (pa_cons (pv 2) pa_nil)))))))))))
    (pss_one (ps_ret (pv 1))))))), ?_⟩
    refine enter (st__law_records _) ?_
    walk_at "i"
    walk_at "r"
    intro p H1 np k1 hp
    walk_at "r"
    refine ⟨a, ds, 0, rfl, k1.get ha (by simp), by omega, hnn, fun v H2 k2 hv => ?_⟩
    walk_at "r"
    refine while_ (fun m σ H' => ∃ (st : Nat) (us : List V) (done rest : List (List Int × Nat)) (v : V) (v4 v5 : Option V), σ = [some (.ref a), some (.ref p), some (.int (st : Int)), some v, v4, v5] ∧ Keep [] H H' ∧ H' p = some (.lst us) ∧ RecsV H' us done ∧
        l = done ++ rest ∧ Re ds st rest ∧ oV vN H' (pnum ds st) v ∧ m = rest.length) l.length ⟨0, [], [], l, v, _, _, rfl, k1.trans k2, k2.get hp (by simp), .nil, rfl, hR, hv, rfl⟩ ?_
    rintro m σ H3 ⟨st, us, done, rest, v, v4, v5, rfl, k3, hp3, hL, hrs2, hRr, hv, hm⟩
    have ha3 := k3.get ha (by simp)
    have hul : us.length = done.length := Paired.length hL
    have hdl := congrArg List.length hrs2
    rw [List.length_append] at hdl
    have fin : ∀ (H' : Hp), Bd ds st → Keep [] H3 H' → Q (.ref p) H' := by
      intro H' hB k
      have hre := hRr.bad hB
      subst hre
      rw [List.append_nil] at hrs2
      subst hrs2
      exact q p us H' np (k3.trans k) (k.get hp3 (by simp)) (hL.mono k)
    cases hz : pnum ds st with
    | none =>
      rw [hz] at hv
      obtain rfl : v = .non := hv
      walk_at "r"
      exact fin H3 (fun b n h => by rw [rsz_no hz] at h; cases h) Keep.refl
    | some z =>
      obtain ⟨n, b⟩ := z
      rw [hz] at hv
      obtain ⟨t, u, rfl, ht, rfl⟩ := hv
      have hrz := rsz_of hz
      walk_at "r"
      refine turn ?_
      walk_at "r"
      rw [show (b : Int) + (n : Int) = ((b + n : Nat) : Int) by omega, cutV_ne, show b + n - b = n by omega, ← List.map_drop, ← List.map_take]
      intro r H4 nr k4 hr4
      have hr4' : H4 r = some (.lst ((mid ds b n).map V.int)) := hr4
      walk_at "r"
      rw [List.length_map]
      have nG : ¬ Gd ds b n → Bd ds st := fun g b' n' h => by rw [hrz] at h; cases h; exact g
      refine ite_dec (fun hlen2 => ?_) (fun hlen2 => ?_)
      · walk_at "r"
        exact fin H4 (nG (fun g => by have := g.1; omega)) k4
      · walk_at "r"
        rw [show ((b + n : Nat) : Int) + 4 = ((b + n + 4 : Nat) : Int) by omega, cutV_ne, ← List.map_drop, ← List.map_take]
        intro x H5 nx k5 hx
        have hr5 := k5.get hr4' (by simp)
        have hml : (mid ds b n).length ≤ 1000000 := by unfold mid; rw [List.length_take, List.length_drop]; omega
        walk_at "r"
        refine ⟨r, mid ds b n, rfl, hr5, hml, fun y H6 ny k6 hy => ?_⟩
        refine w_neL (k6.get hx (by simp)) hy ?_
        have hcan := Re.canon (s := st) hby hrz (by omega)
        have k46 := k4.trans (k5.trans k6)
        walk_at "r"
        refine ite_ndec (fun hne => ?_) (fun hne => ?_)
        · walk_at "r"
          exact fin H6 (nG (fun g => hne (hcan.2 g))) k46
        · obtain ⟨rest', rfl, hR2⟩ := hRr.good hrz (hcan.1 hne)
          have hp6 := k46.get hp3 (by simp)
          have hr6 := k6.get hr5 (by simp)
          rw [List.length_cons] at hdl
          walk_at "r"
          intro tt H7 nt k7 htt
          have hp7 := k7.get hp6 (by simp)
          walk_at "r"
          intro H8 k8 h8
          have npr : r ≠ p := fun z => by subst z; rw [hp3] at nr; cases nr
          have kk := (k3.trans (k46.trans k7)).mut np k8
          walk_at "r"
          refine ⟨a, ds, b + n + 4, rfl, kk.get ha (by simp), by omega, hnn, fun v H9 k9 hv9 => ?_⟩
          walk_at "r"
          refine ⟨rest'.length, by simp [hm], b + n + 4, _, done ++ [(mid ds b n, b + n + 4)], rest', v, _, _, rfl, kk.trans k9, k9.get h8 (by simp), ?_, by rw [hrs2]; simp, hR2, hv9, rfl⟩
          exact RecsV.mono (Paired.snoc (RecsV.mut hp7 k8 (hL.mono (k46.trans k7))) ⟨tt, r, rfl, k8.2 _ _ htt, k8.get (k7.get hr6 (by simp)) (by simp [npr])⟩) k9
/-- a base told by the law -/
def vSt (H : Hp) (bs : Bs) (v : V) : Prop := ∃ s rs, v = .ref s ∧ H s = some (.lst [.int (bs.1 : Int), .ref rs]) ∧ RowsN (fun _ => none) H rs bs.2
theorem vSt.mono {H H' : Hp} {bs : Bs} {v : V} (h : vSt H bs v) (k : Keep [] H H') : vSt H' bs v := by
  obtain ⟨s, rs, e, h1, h2⟩ := h
  exact ⟨s, rs, e, k.get h1 (by simp), h2.mono k⟩
def oSt (H : Hp) : Option Bs → V → Prop
  | none, v => v = .non
  | some bs, v => vSt H bs v
def sp_lbase : Sp := fun vs H Q _ => ∃ (a : Addr) (ds : List Int), vs = [.ref a] ∧ H a = some (.lst (ds.map V.int)) ∧ ds.length ≤ 400000 ∧ (∀ b ∈ ds, 0 ≤ b) ∧ ∀ v H', Keep [] H H' → oSt H' (pbase ds) v → Q v H'
theorem ok__law_base (e : Env K mg A) : FnOk P w K mg base CX0 4 A.f__law_base A.d__law_base ["record"] sp_lbase := by
  have G__law_read_number := ok__law_read_number (P := P) (w := w) (base := base) e
  have G__law_read_deed := ok__law_read_deed (P := P) (w := w) (base := base) e
  refine e.F__law_base.ok sc__law_base (fun vs H Q E h => ?_) (fun cdv AA outer s H vs Q E hr h => ?_)
  · obtain ⟨a, ds, rfl, _⟩ := h
    rfl
  · obtain ⟨a, ds, rfl, ha, hl, hn, q⟩ := h
    have no : pbase ds = none → ∀ H', Keep [] H H' → Q .non H' := fun h H' k => q _ H' k (by rw [h]; rfl)
    refine ⟨_, (pss_cons (ps_set (i := 1) sc__law_base.nd rfl (Or.inl rfl) (pe_call G__law_read_number (hr.mono (by omega)) (by rfl) e.m__law_read_number e.k__law_read_number e.b__law_read_number .nil pass0 (pa_cons (pv 0) (pa_cons pe_int pa_nil))))
    (pss_cons (ps_if (PW.pt (pw_or (pt_cmpR op_isNo (pv 1) pe_non (nomark _)) (pw_or1 (pt_cmpR op_ne (pe_ix (ix_listK (K := K)) (pv 0) pe_int (fun _ _ => rfl)) pe_int (nomark _))))) (pss_one (ps_ret pe_non)) pss_nil)
    (pss_cons (ps_set (i := 2) sc__law_base.nd rfl (Or.inl rfl) (pe_ix (ix_tupK (K := K)) (pv 1) pe_int (fun _ _ => rfl)))
    (pss_cons (ps_set (i := 3) sc__law_base.nd rfl (Or.inl rfl) (pe_lst pa_nil))
    (pss_cons (ps_for PassesOwn.never rfl (pi_range1 rfl e.n_range (pa_cons pe_int pa_nil)) (pg_name (i := 4) sc__law_base.nd rfl (Or.inl rfl)) (pss_cons (ps_set (i := 5) sc__law_base.nd rfl (Or.inl rfl) (pe_call G__law_read_number (hr.mono (by omega)) (by rfl) e.m__law_read_number e.k__law_read_number e.b__law_read_number .nil pass0 (pa_cons (pv 0) (pa_cons (pv 2) pa_nil))))
    (pss_cons (ps_if (PW.pt (pw_or (pt_cmpR op_isNo (pv 5) pe_non (nomark _)) (pw_or1 (pt_cmpR op_gt (pe_ix (ix_tupK (K := K)) (pv 5) pe_int (fun _ _ => rfl)) (pe_op op_sub (pe_callB (call_lenLK (K := K)) (by rfl) e.n_len (by decide +kernel) (pa_cons (pv 0) pa_nil)) (pe_ix (ix_tupK (K := K)) (pv 5) pe_int (fun _ _ => rfl))) (nomark _))))) (pss_one (ps_ret pe_non)) pss_nil)
    (pss_cons (ps_set (i := 2) sc__law_base.nd rfl (Or.inl rfl) (pe_ix (ix_tupK (K := K)) (pv 5) pe_int (fun _ _ => rfl)))
    (pss_cons (ps_set (i := 6) sc__law_base.nd rfl (Or.inl rfl) (pe_lst pa_nil))
    (pss_cons (ps_for PassesOwn.never rfl (pi_range1 rfl e.n_range (pa_cons (pe_ix (ix_tupK (K := K)) (pv 5) pe_int (fun _ _ => rfl)) pa_nil)) (pg_name (i := 7) sc__law_base.nd rfl (Or.inl rfl)) (pss_cons (ps_set (i := 8) sc__law_base.nd rfl (Or.inl rfl) (pe_call G__law_read_deed (hr.mono (by omega)) (by rfl) e.m__law_read_deed e.k__law_read_deed e.b__law_read_deed .nil pass0 (pa_cons (pv 0) (pa_cons (pv 2) pa_nil))))
    (pss_cons (ps_if (pt_cmpR op_isNo (pv 8) pe_non (nomark _)) (pss_one (ps_ret pe_non)) pss_nil)
    (pss_cons (ps_expr (pe_bmK (K := K) PySem.F.plainAttrs_list PySem.F.slot_list_append PySem.F.type_list_append mt_append (pv 6) (pa_cons (pe_ix (ix_tupK (K := K)) (pv 8) pe_int (fun _ _ => rfl)) pa_nil)))
    (pss_one (ps_set (i := 2) sc__law_base.nd rfl (Or.inl rfl) (pe_ix (ix_tupK (K := K)) (pv 8) pe_int (fun _ _ => rfl))))))))
    (pss_one (ps_expr (pe_bmK (K := K) PySem.F.plainAttrs_list PySem.F.slot_list_append PySem.F.type_list_append mt_append (pv 3) (pa_cons (pv 6) pa_nil))))))))))
    (pss_one (ps_ret (pe_ifExp (pt_cmpR op_eq (pv 2) (pe_callB (call_lenLK (K := K)) (by rfl) e.n_len (by decide +kernel) (pa_cons (pv 0) pa_nil)) (nomark _)) (pe_lst (pa_cons (pe_ix (ix_tupK (K := K)) (pv 1) pe_int (fun _ _ => rfl)) (pa_cons (pv 3) pa_nil))) pe_non)))))))), ?_⟩
    refine enter (st__law_base _) ?_
    walk_at "i"
    walk_at "r"
    refine ⟨a, ds, 1, rfl, ha, by omega, hn, fun v H1 k1 hv => ?_⟩
    cases hz : pnum ds 1 with
    | none =>
      rw [hz] at hv
      obtain rfl : v = .non := hv
      walk_at "r"
      refine no ?_ H1 k1
      by_cases h0 : 0 < ds.length
      · by_cases hb : ds.getD 0 0 = 3
        · unfold pbase; rw [phead_yes h0 hb]; exact pend_no (by unfold pbs; rw [hz]; rfl)
        · exact phead_ne h0 hb
      · exact phead_no h0
    | some z =>
      obtain ⟨n, p1⟩ := z
      rw [hz] at hv
      obtain ⟨tc, u, rfl, htc, rfl⟩ := hv
      have hlen1 : 1 < ds.length := by
        by_cases h : 1 < ds.length
        · exact h
        · unfold pnum at hz
          rw [List.drop_of_length_le (by omega)] at hz
          cases hz
      have h0 : 0 < ds.length := by omega
      have hat := at_ds0 h0
      have ha1 := k1.get ha (by simp)
      have hat : atI (ds.map V.int) 0 = some (.int (ds.getD 0 0)) := hat
      walk_at "r"
      refine ite_ndec (fun hb => ?_) (fun hb => ?_)
      · walk_at "r"
        exact no (phead_ne h0 hb) H1 k1
      have e1 : pbase ds = pend ds ((prows ds p1).map fun r => ((n, r.1), r.2)) := by unfold pbase; rw [phead_yes h0 hb]; unfold pbs; rw [hz]; rfl
      have hp1 := (pnum_at hz (by omega)).2
      clear hat
      walk_at "r"
      intro R H2 nR k2 hR2
      have k12 := k1.trans k2
      have nR0 : H R = none := k1.free nR (by simp)
      have htc2 := k2.get htc (by simp)
      walk_at "r"
      refine forR1 (by omega) (by omega) (fun i σ H' => ∃ (v4 v5 v6 v7 v8 : Option V) (rows : Rws) (q' : Nat), σ = [some (.ref a), some (.ref tc), some (.int (q' : Int)), some (.ref R), v4, v5, v6, v7, v8] ∧ Keep [] H1 H' ∧ RowsN H H' R rows ∧ pmany (pdeeds ds) i p1 = some (rows, q') ∧ q' ≤ ds.length)
        ⟨_, _, _, _, _, [], p1, rfl, k2, RowsN.start nR0 hR2, rfl, hp1⟩ ?_ ?_
      · rintro i σ H3 hi ⟨v4, v5, v6, v7, v8, rows, q', rfl, k3, hRw, hm, hq'⟩
        have ha3 := (k1.trans k3).get ha (by simp)
        have fail : pdeeds ds q' = none → ∀ H', Keep [] H3 H' → Q .non H' := fun hf H' k => no (by rw [e1]; exact pend_no (by unfold prows; rw [pmany_stop (pdeeds ds) hm hf (by omega)]; rfl)) H' (k1.trans (k3.trans k))
        obtain ⟨us, hRu⟩ : ∃ us, H3 R = some (.lst us) := by obtain ⟨ts, h, _⟩ := hRw; exact ⟨_, h⟩
        have hul := hRw.len hRu
        have hrl := pmany_len _ hm
        clear htc2 hR2
        walk_at "r"
        refine ⟨a, ds, q', rfl, ha3, by omega, hn, fun v H4 k4 hv => ?_⟩
        cases hz2 : pnum ds q' with
        | none =>
          rw [hz2] at hv
          obtain rfl : v = .non := hv
          walk_at "r"
          exact fail (by unfold pdeeds plist pcnt; rw [hz2]; rfl) H4 k4
        | some z =>
          obtain ⟨c, q1⟩ := z
          rw [hz2] at hv
          obtain ⟨t2, u2, rfl, ht2, rfl⟩ := hv
          have hcn : pcnt ds q' = if ds.length < c + q1 then none else some (c, q1) := by unfold pcnt; rw [hz2]; rfl
          have ha4 := k4.get ha3 (by simp)
          walk_at "r"
          rw [List.length_map]
          refine ite_dec (fun h4 => ?_) (fun h4 => ?_)
          · walk_at "r"
            exact fail (by unfold pdeeds plist; rw [hcn, if_pos (by omega)]; rfl) H4 k4
          rw [if_neg (by omega)] at hcn
          have e3 : pdeeds ds q' = pmany (pdd ds) c q1 := by unfold pdeeds plist; rw [hcn]; rfl
          walk_at "r"
          intro M H5 nM k5 hM
          have ht25 := k5.get ht2 (by simp)
          clear ha4 ht2
          walk_at "r"
          refine forR1 (by omega) (by omega) (fun j σ H' => ∃ (v7 v8 : Option V) (q2 : Nat), σ = [some (.ref a), some (.ref tc), some (.int (q2 : Int)), some (.ref R), some (.int (i : Int)), some (.ref t2), some (.ref M), v7, v8] ∧ ManyL pdd vD H4 ds q1 M j q2 H')
            ⟨_, _, q1, rfl, [], [], k5, hM, rfl, Paired.nil⟩ ?_ ?_
          · rintro j σ H6 hj ⟨v7, v8, q2, rfl, us6, l6, k6, hM6, hmm, hpd⟩
            have hul6 : us6.length = j := by rw [Paired.length hpd, pmany_len _ hmm]
            have ha6 := (k4.trans k6).get ha3 (by simp)
            clear ht25
            walk_at "r"
            refine ⟨a, ds, q2, rfl, ha6, by omega, hn, fun v H7 k7 hv => ?_⟩
            cases hz3 : pdd ds q2 with
            | none =>
              rw [hz3] at hv
              obtain rfl : v = .non := hv
              walk_at "r"
              exact fail (by rw [e3]; exact pmany_stop (pdd ds) hmm hz3 (by omega)) H7 (k4.trans (k6.trans k7))
            | some z =>
              obtain ⟨dd, q3⟩ := z
              rw [hz3] at hv
              obtain ⟨t3, u3, rfl, ht3, hu3⟩ := hv
              have hM7 := k7.get hM6 (by simp)
              walk_at "r"
              intro H8 k8 h8
              have ht38 := k8.2 _ _ ht3
              walk_at "r"
              exact ⟨_, _, q3, rfl, ManyL.next stays_D nM k6 hmm hpd hz3 k7 hu3 k8 h8⟩
          · rintro σ H6 ⟨v7, v8, q2, rfl, us6, row, k6, hM6, hmm, hpd⟩
            simp only [Int.toNat_natCast] at hmm
            rw [← e3] at hmm
            have hRu4 := k4.get hRu (by simp)
            have hRu6 := k6.get hRu4 (by simp)
            have hus : us.length ≤ 8 := by omega
            walk_at "r"
            intro H7 k7 h7
            have hR4 := hRw.mono k4
            refine ⟨_, _, _, _, _, rows ++ [row], q2, rfl, (k3.trans (k4.trans k6)).mut nR k7, RowsN.push hR4 (k1.trans (k3.trans k4)) hRu4 nM k6 ⟨us6, hM6, hpd⟩ k7 h7, pmany_step _ hm hmm, fw_list (P := pdd) fw_dd q' row q2 hq' hmm⟩
      · rintro σ H3 ⟨v4, v5, v6, v7, v8, rows, q', rfl, k3, hRw, hm, hq'⟩
        have hm : prows ds p1 = some (rows, q') := hm
        have e2 : (prows ds p1).map (fun r => ((n, r.1), r.2)) = some ((n, rows), q') := by rw [hm]; rfl
        have htc3 := k3.get htc (by simp)
        have ha3 := (k1.trans k3).get ha (by simp)
        clear htc2 hR2
        walk_at "r"
        rw [List.length_map]
        refine ite_dec (fun he => ?_) (fun he => ?_)
        · walk_at "r"
          intro S H4 nS k4 hS
          refine q _ H4 (k1.trans (k3.trans k4)) ?_
          rw [e1, pend_all e2 (by omega)]
          exact ⟨S, R, rfl, hS, (hRw.mono k4).any⟩
        · walk_at "r"
          exact no (by rw [e1]; exact pend_more e2 (by omega)) H3 (k1.trans k3)
end My

end
section
set_option maxHeartbeats 4000000
local macro_rules | `(tactic| walk_at "k") => `(tactic| first
  | assumption
  | exact W.Keep.trans (by assumption) (by assumption)
  | exact And.intro (by grind [W.Keep, W.Kp]) (by grind [W.Keep, W.Kt])
  | grind [W.Keep, W.Kp])
local macro_rules | `(tactic| walk_at "f") => `(tactic| first
  | assumption
  | exact L2.SqL.of (by assumption)
  | exact L2.SqT.of (by assumption)
  | exact L2.SqL.of L2.upd_same
  | exact L2.SqT.of L2.upd_same
  | exact L2.upd_same
  | exact W.carryL (by assumption) (by assumption)
  | exact W.carryL (by assumption) (by walk_at "k")
  | exact W.carryT (by assumption) (by walk_at "k")
  | exact W.carry (by assumption) (by grind [W.Keep, W.Kp])
  | exact L2.SqL.of (W.carry (by assumption) (by grind [W.Keep, W.Kp]))
  | exact L2.SqT.of (W.carry (by assumption) (by grind [W.Keep, W.Kp])))
local macro_rules | `(tactic| walk_at "a") => `(tactic| first
  | assumption
  | rfl)
local macro_rules | `(tactic| walk_at "n") => `(tactic| first
  | assumption
  | exact Nat.zero_le _
  | decide
  | (simp only [List.length_cons, List.length_nil]; decide)
  | omega
  | (simp only [PySem.sizeLine_eq]; omega)
  | (simp only [List.length_map, List.length_append, List.length_cons, List.length_nil, PySem.sizeLine_eq]; omega)
  | (simp only [List.length_map, List.length_append, List.length_cons, List.length_nil, List.length_take, List.length_drop, PySem.sizeLine_eq]; omega)
  | (simp only [List.length_map, List.length_append, List.length_cons, List.length_nil, PySem.sizeLine_eq] at *; omega))
local macro_rules | `(tactic| walk_at "c") => `(tactic| first
  | assumption
  | decide
  | exact And.intro (by decide) (by decide)
  | exact Or.inr (And.intro (by decide) (by decide))
  | exact Or.inl (And.intro (by decide) (by decide))
  | exact And.intro (by decide) (And.intro (by decide) (by decide))
  | exact (show (0 : Int) < _ by decide)
  | exact And.intro (by omega) (by omega)
  | exact Or.inl (And.intro (by omega) (by omega))
  | exact Or.inr (And.intro (by omega) (by omega))
  | exact (show (0 : Int) < _ by omega))
local macro_rules | `(tactic| walk_at "v") => `(tactic| with_reducible first
  | refine W.v0 ?_ | refine W.v1 ?_ | refine W.v2 ?_ | refine W.v3 ?_ | refine W.v4 ?_ | refine W.v5 ?_ | refine W.v6 ?_ | refine W.v7 ?_ | refine W.v8 ?_
  | refine W.v9 ?_ | refine W.v10 ?_ | refine W.v11 ?_ | refine W.v12 ?_ | refine W.v13 ?_ | refine W.v14 ?_ | refine W.v15 ?_ | refine W.v16 ?_ | refine W.v17 ?_
  | refine W.g0 ?_ | refine W.g1 ?_ | refine W.g2 ?_ | refine W.g3 ?_ | refine W.g4 ?_ | refine W.g5 ?_ | refine W.g6 ?_ | refine W.g7 ?_ | refine W.g8 ?_
  | refine W.g9 ?_ | refine W.g10 ?_ | refine W.g11 ?_ | refine W.g12 ?_ | refine W.g13 ?_ | refine W.g14 ?_ | refine W.g15 ?_)
local macro_rules | `(tactic| walk_at "e") => `(tactic| with_reducible first
  | refine W.e_c ?_ | refine W.e_op ?_ | refine W.s_seq ?_ | refine W.s_asg ?_ | refine W.e_CB ?_ | refine W.a_cons ?_ | refine W.a_nil ?_ | refine W.e_call ?_
  | refine W.t_test ?_ | refine W.w_B ?_ | refine W.s_if ?_ | refine W.s_ret ?_ | refine W.s_drop ?_ | refine W.e_un ?_ | refine W.e_fld ?_ | refine W.s_fld ?_
  | refine W.e_meth ?_ | refine W.e_if ?_ | refine W.e_lst ?_ | refine W.e_tup ?_ | refine W.e_sl ?_ | refine W.o_none ?_ | refine W.o_some ?_ | refine W.w_part ?_
  | refine W.e_bm ?_ | refine W.e_bm0 ?_ | refine W.t_B ?_ | refine W.t_and ?_ | refine W.t_or ?_ | refine W.t_not ?_ | refine W.e_andV ?_ | refine W.e_orV ?_ | refine W.e_notV ?_ | refine W.w_BV ?_ | refine W.e_chain ?_
  | refine W.s_aug ?_ | refine W.s_augS ?_ | refine W.s_next ?_ | refine W.s_brk ?_ | refine W.s_cont ?_ | refine W.s_retN ?_ | refine W.s_fa ?_ | refine W.e_make ?_ | refine W.w_make ?_
  | refine W.w_I0 ?_ | refine W.w_U ?_ | refine W.w_aug ?_ | refine W.w_eqI ?_ | refine W.w_neI ?_ | refine W.w_eqS ?_ | refine W.w_neS ?_ | refine W.w_eqB ?_ | refine W.w_neB ?_
  | refine W.w_int ?_ | refine W.w_intB ?_ | refine W.w_min ?_ | refine W.w_max ?_ | refine W.w_isN ?_ | refine W.w_isI ?_ | refine W.w_isS ?_ | refine W.w_isB ?_ | refine W.w_isR ?_
  | refine W.w_notN ?_ | refine W.w_notI ?_ | refine W.w_notR ?_ | refine W.w_notS ?_ | refine W.w_eqNI ?_ | refine W.w_neNI ?_ | refine W.w_eqN ?_ | refine W.w_neN ?_
  | refine W.s_forL ?_ | refine W.s_forT ?_ | refine W.s_forS ?_ | refine W.s_forR1 ?_ | refine W.s_forR2 ?_ | refine W.s_forR3 ?_ | refine W.s_forZ ?_ | refine W.s_forE ?_
  | refine W.e_lcL ?_ | refine W.e_lcT ?_ | refine W.w_ord ?_ | refine W.e_lcR1 ?_ | refine W.e_lcR2 ?_ | refine W.e_lcZ ?_ | refine W.e_lcS ?_ | refine W.t_yes ?_ | refine W.w_gcons ?_ | refine W.w_gnil ?_ | refine W.s_par ?_ | refine W.w_par ?_ | refine W.g_sub ?_ | refine W.e_m1 ?_ | refine W.w_strR ?_ | refine W.w_rAdd ?_ | refine W.w_rSub ?_ | refine W.s_raise ?_ | refine W.s_try ?_ | refine W.e_methS ?_ | refine W.e_callS ?_)
local macro_rules | `(tactic| walk_at "w") => `(tactic| first
  | ((with_reducible refine' W.w_I ?wh ?wq); (case wh => walk_at "c"))
  | ((with_reducible refine' W.w_ixL (n := 0) ?wh ?we ?wq); (case wh => walk_at "f"); (case we => walk_at "a"))
  | ((with_reducible refine' W.w_ixT (n := 0) ?wh ?we ?wq); (case wh => walk_at "f"); (case we => walk_at "a"))
  | ((with_reducible refine' W.w_lenL ?wh ?wq); (case wh => walk_at "f"))
  | ((with_reducible refine' W.w_lenT ?wh ?wq); (case wh => walk_at "f"))
  | ((with_reducible refine' W.w_lenS ?wh ?wq); (case wh => walk_at "n"))
  | ((with_reducible refine' W.w_app ?wh ?we ?wq); (case wh => walk_at "f"); (case we => walk_at "n"))
  | ((with_reducible refine' W.w_meth ?wh ?we ?wq); (case wh => walk_at "f"); (case we => first | assumption | rfl))
  | ((with_reducible refine' W.w_ixLTl ?wh ?we ?wq); (case wh => walk_at "f"); (case we => walk_at "a"))
  | ((with_reducible refine' W.w_ixLTt ?wh ?we ?wq); (case wh => walk_at "f"); (case we => walk_at "a"))
  | ((with_reducible refine' W.w_addS ?wh ?wq); (case wh => walk_at "n"))
  | ((with_reducible refine' W.w_set ?wh ?we ?wq); (case wh => walk_at "f"); (case we => walk_at "a"))
  | ((with_reducible refine' W.w_tup ?wh ?we ?wq); (case wh => walk_at "f"); (case we => first | assumption | rfl))
  | ((with_reducible refine' W.w_slS ?wh ?wq); (case wh => walk_at "n"))
  | ((with_reducible refine' W.w_rApp ?wh ?we ?wq); (case wh => walk_at "f"); (case we => walk_at "n"))
  | ((with_reducible refine' W.w_newL ?wh ?wq); (case wh => walk_at "n"))
  | ((with_reducible refine' W.w_newT ?wh ?wq); (case wh => walk_at "n"))
  | ((with_reducible refine' W.w_listL ?wh ?wq); (case wh => walk_at "f"))
  | ((with_reducible refine' W.w_tupL ?wh ?wq); (case wh => walk_at "f"))
  | ((with_reducible refine' W.w_slL ?wh ?wq); (case wh => walk_at "f"))
  | ((with_reducible refine' W.w_cat ?wh ?wf ?we ?wq); (case wh => walk_at "f"); (case wf => walk_at "f"); (case we => walk_at "n"))
  | ((with_reducible refine' W.w_catT ?wh ?wf ?wx ?wy ?we ?wq); (case wh => walk_at "f"); (case wf => walk_at "f"); (case wx => exact List.cons_ne_nil _ _); (case wy => exact List.cons_ne_nil _ _); (case we => walk_at "n"))
  | ((with_reducible refine' W.w_ext ?wh ?wf ?we ?wq); (case wh => walk_at "f"); (case wf => walk_at "f"); (case we => walk_at "n"))
  | ((with_reducible refine' W.w_recv ?wh ?wq); (case wh => walk_at "f"))
  | ((with_reducible refine' W.w_isi1 ?wh ?we ?wq); (case wh => assumption); (case we => decide +kernel))
  | ((with_reducible refine' W.w_isi0 ?wh ?we ?wq); (case wh => assumption); (case we => decide +kernel))
  | ((with_reducible refine' W.w_isiT10 ?wh ?wf ?we ?wg ?wq); (case wh => assumption); (case wf => walk_at "f"); (case we => decide +kernel); (case wg => decide +kernel))
  | ((with_reducible refine' W.w_isiT01 ?wh ?wf ?we ?wg ?wq); (case wh => assumption); (case wf => walk_at "f"); (case we => decide +kernel); (case wg => decide +kernel))
  | ((with_reducible refine' W.w_isiT00 ?wh ?wf ?we ?wg ?wq); (case wh => assumption); (case wf => walk_at "f"); (case we => decide +kernel); (case wg => decide +kernel))
  | ((with_reducible refine' W.w_ins ?wh ?we ?wf ?wq); (case wh => walk_at "f"); (case we => walk_at "n"); (case wf => walk_at "c"))
  | ((with_reducible refine' W.w_unl ?wh ?we ?wq); (case wh => walk_at "f"); (case we => first | assumption | rfl))
  | ((with_reducible refine' W.ite_T ?_))
  | ((with_reducible refine' W.ite_F ?_))
  | ((with_reducible refine' W.ite_nT ?_))
  | ((with_reducible refine' W.ite_nF ?_))
  | ((with_reducible refine' W.ite_self ?_))
  | ((with_reducible refine' W.ite_nself ?_))
  | ((with_reducible refine' W.ite_tf ?_))
  | ((with_reducible refine' W.ite_ft ?_))
  | ((with_reducible refine' W.ite_ntf ?_))
  | ((with_reducible refine' W.ite_nft ?_))
  | ((with_reducible refine' And.intro ?wl ?wq); (case wl => rfl)))
local macro_rules | `(tactic| walk_at "i") => `(tactic| try (dsimp only [L2.cxOf, L2.wipe, List.map, List.set]))
local macro_rules | `(tactic| walk_at "s") => `(tactic| first | walk_at "v" | walk_at "e" | walk_at "w")
local macro_rules | `(tactic| walk_at "r") => `(tactic| repeat walk_at "s")

namespace My
open PySem L2 W
variable {P : Program} {w : World} {K : PySem.W.Frag} {mg : Str → Option Value} {base : Heap} {A : Adr}
def only (S : Addr) : Hp := fun b => if b = S then some (.lst []) else none
theorem only_no {S t : Addr} (h : t ≠ S) : only S t = none := by unfold only; rw [if_neg h]
theorem only_S {S : Addr} : ∀ x ∈ [S], only S x ≠ none := fun x hx => by rw [List.mem_singleton] at hx; subst hx; unfold only; rw [if_pos rfl]; simp
theorem RowsN.only {H : Hp} {rs S : Addr} {rows : Rws} (h : RowsN (fun _ => none) H rs rows) (n : H S = none) : RowsN (My.only S) H rs rows := by
  obtain ⟨ts, h1, h2, h3, h4⟩ := h
  refine ⟨ts, h1, h2, h3, fun t ht => only_no fun z => ?_⟩
  subst z
  rcases List.mem_cons.mp ht with rfl | ht
  · rw [h1] at n; cases n
  · obtain ⟨i, hi, e⟩ := List.getElem_of_mem ht
    obtain ⟨row, _, ws, hws, _⟩ := pd_get h3 (List.getElem?_eq_getElem hi)
    rw [e] at hws
    rw [hws] at n; cases n
theorem RowsN.only' {H0 H : Hp} {rs S : Addr} {rows : Rws} (h : RowsN H0 H rs rows) (n : H0 S ≠ none) : RowsN (My.only S) H rs rows := by
  obtain ⟨ts, h1, h2, h3, h4⟩ := h
  exact ⟨ts, h1, h2, h3, fun t ht => only_no fun z => n (z ▸ h4 t ht)⟩
def vStN (Z H : Hp) (bs : Bs) (v : V) : Prop := ∃ s rs, v = .ref s ∧ H s = some (.lst [.int (bs.1 : Int), .ref rs]) ∧ RowsN Z H rs bs.2 ∧ Z s = none
theorem vStN.mono {Z H H' : Hp} {bs : Bs} {v : V} (h : vStN Z H bs v) (k : Keep [] H H') : vStN Z H' bs v := by
  obtain ⟨s, rs, e, h1, h2, h3⟩ := h
  exact ⟨s, rs, e, k.get h1 (by simp), h2.mono k, h3⟩
theorem vStN.keepS {S : Addr} {H H' : Hp} {bs : Bs} {v : V} (h : vStN (only S) H bs v) (k : Keep [S] H H') : vStN (only S) H' bs v := by
  obtain ⟨s, rs, e, h1, h2, h3⟩ := h
  exact ⟨s, rs, e, k.get h1 (fun z => only_S _ z h3), h2.keepN k only_S, h3⟩
theorem vStN.st {Z H : Hp} {bs : Bs} {v : V} (h : vStN Z H bs v) : vSt H bs v := by
  obtain ⟨s, rs, e, h1, h2, h3⟩ := h
  exact ⟨s, rs, e, h1, h2.any⟩
/-- what a file tells, by the law -/
def vTell (H : Hp) : Option (Nat × List Bs × Nat) → V → Prop
  | none, v => v = .non
  | some (t, bss, n), v => ∃ tt S us, v = .ref tt ∧ H tt = some (.tup [.int (t : Int), .ref S, .int (n : Int)]) ∧ H S = some (.lst us) ∧ Paired (fun v bs => vSt H bs v) us bss
theorem RecsV.three {H : Hp} {us : List V} {z0 z1 z2 : List Int × Nat} {r : List (List Int × Nat)} (h : RecsV H us (z0 :: z1 :: z2 :: r)) :
    ∃ t0 t1 t2 r0 r1 r2 ur, us = .ref t0 :: .ref t1 :: .ref t2 :: ur ∧ H t0 = some (.tup [.ref r0, .int (z0.2 : Int)]) ∧ H r0 = some (.lst (z0.1.map V.int)) ∧ H t1 = some (.tup [.ref r1, .int (z1.2 : Int)]) ∧ H r1 = some (.lst (z1.1.map V.int)) ∧
      H t2 = some (.tup [.ref r2, .int (z2.2 : Int)]) ∧ H r2 = some (.lst (z2.1.map V.int)) ∧ RecsV H ur r := by
  unfold RecsV at h
  cases h with
  | cons h0 h =>
    cases h with
    | cons h1 h =>
      cases h with
      | cons h2 h =>
        obtain ⟨t0, r0, rfl, e0, f0⟩ := h0
        obtain ⟨t1, r1, rfl, e1, f1⟩ := h1
        obtain ⟨t2, r2, rfl, e2, f2⟩ := h2
        exact ⟨t0, t1, t2, r0, r1, r2, _, rfl, e0, f0, e1, f1, e2, f2, h⟩
theorem atI_last {α : Type} (us : List α) (v : α) : atI (us ++ [v]) (-1) = some v := by
  have e : ixN (us ++ [v]).length (-1) = some us.length := by
    unfold ixN
    rw [if_neg (by omega), if_pos (by rw [List.length_append, List.length_singleton]; omega), List.length_append, List.length_singleton]
    congr 1; omega
  unfold atI
  rw [e]
  simp
def sp_tells : Sp := fun vs H Q _ => ∃ (a : Addr) (ds : List Int) (l : List (List Int × Nat)), vs = [.ref a] ∧ H a = some (.lst (ds.map V.int)) ∧ ds.length ≤ 400000 ∧ (∀ b ∈ ds, 0 ≤ b ∧ b < 256) ∧ Re ds 0 l ∧
  ∀ v H', Keep [] H H' → vTell H' (tell l) v → Q v H'
theorem take1 {ds : List Int} {k : Int} (h : ds.take 1 = [k]) : 0 < ds.length ∧ ds.getD 0 0 = k := by
  cases ds with
  | nil => cases h
  | cons x r => simp at h; subst h; simp
theorem take1n {ds : List Int} {k : Int} (h : ¬ ds.take 1 = [k]) {α : Type} {P : Rdr α} : phead k P ds = none := by
  by_cases h0 : 0 < ds.length
  · refine phead_ne h0 fun hb => h ?_
    cases ds with
    | nil => simp at h0
    | cons x r => simp at hb; subst hb; rfl
  · exact phead_no h0
theorem cutV_1 (ds : List Int) : cutV (ds.map V.int) none (some 1) = (ds.take 1).map V.int := by
  rw [show (1 : Int) = ((1 : Nat) : Int) from rfl, cutV_to, List.map_take]
theorem w_eqL {H : Hp} {Q : VK} {a b : Addr} {xs ys : List Int} (ha : H a = some (.lst (xs.map V.int))) (hb : H b = some (.lst (ys.map V.int))) (q : Q (.bl (decide (xs = ys))) H) : rEqD K (.ref a) (.ref b) H Q :=
  ⟨.list (xs.map .int), .list (ys.map .int), (Da.lst ha (DaL.ints xs)).dp, (Da.lst hb (DaL.ints ys)).dp, shp_ints xs, shp_ints ys, by rw [eqv_ints]; exact q⟩
theorem ok__law_tells (e : Env K mg A) : FnOk P w K mg base CX0 5 A.f__law_tells A.d__law_tells ["data"] sp_tells := by
  have G__law_records := ok__law_records (P := P) (w := w) (base := base) e
  have G__law_read_number := ok__law_read_number (P := P) (w := w) (base := base) e
  have G__law_base := ok__law_base (P := P) (w := w) (base := base) e
  have G__law_read_triples := ok__law_read_triples (P := P) (w := w) (base := base) e
  refine e.F__law_tells.ok sc__law_tells (fun vs H Q E h => ?_) (fun cdv AA outer s H vs Q E hr h => ?_)
  · obtain ⟨a, ds, l, rfl, _⟩ := h
    rfl
  · obtain ⟨a, ds, l, rfl, ha, hl, hby, hR, q⟩ := h
    have no : tell l = none → ∀ H', Keep [] H H' → Q .non H' := fun h H' k => q _ H' k (by rw [h]; rfl)
    refine ⟨_, (pss_cons (ps_set (i := 1) sc__law_tells.nd rfl (Or.inl rfl) (pe_call G__law_records (hr.mono (by omega)) (by rfl) e.m__law_records e.k__law_records e.b__law_records .nil pass0 (pa_cons (pv 0) pa_nil)))
    (pss_cons (ps_if (PW.pt (pw_or (pt_cmpR op_lt (pe_callB (call_lenLK (K := K)) (by rfl) e.n_len (by decide +kernel) (pa_cons (pv 1) pa_nil)) pe_int (nomark _)) (pw_or (pt_cmpR (op_neDK hr.units (K := K)) (pe_ix (ix_tupK (K := K)) (pe_ix (ix_listK (K := K)) (pv 1) pe_int (fun _ _ => rfl)) pe_int (fun _ _ => rfl)) (pe_lst (pa_cons pe_int pa_nil)) (nomark _)) (pw_or (pt_cmpR (op_neDK hr.units (K := K)) (pe_slice (sl_listK (K := K)) (pe_ix (ix_tupK (K := K)) (pe_ix (ix_listK (K := K)) (pv 1) pe_int (fun _ _ => rfl)) pe_int (fun _ _ => rfl)) po_none (po_some pe_int)) (pe_lst (pa_cons pe_int pa_nil)) (nomark _)) (pw_or1 (pt_cmpR (op_eqDK hr.units (K := K)) (pe_ix (ix_tupK (K := K)) (pe_ix (ix_listK (K := K)) (pv 1) pe_int (fun _ _ => rfl)) pe_int (fun _ _ => rfl)) (pe_lst pa_nil) (nomark _))))))) (pss_one (ps_ret pe_non)) pss_nil)
    (pss_cons (ps_set (i := 2) sc__law_tells.nd rfl (Or.inl rfl) (pe_call G__law_read_number (hr.mono (by omega)) (by rfl) e.m__law_read_number e.k__law_read_number e.b__law_read_number .nil pass0 (pa_cons (pe_ix (ix_tupK (K := K)) (pe_ix (ix_listK (K := K)) (pv 1) pe_int (fun _ _ => rfl)) pe_int (fun _ _ => rfl)) (pa_cons pe_int pa_nil))))
    (pss_cons (ps_set (i := 3) sc__law_tells.nd rfl (Or.inl rfl) (pe_call G__law_base (hr.mono (by omega)) (by rfl) e.m__law_base e.k__law_base e.b__law_base .nil pass0 (pa_cons (pe_ix (ix_tupK (K := K)) (pe_ix (ix_listK (K := K)) (pv 1) pe_int (fun _ _ => rfl)) pe_int (fun _ _ => rfl)) pa_nil)))
    (pss_cons (ps_if (PW.pt (pw_or (pt_cmpR op_isNo (pv 2) pe_non (nomark _)) (pw_or (pt_cmpR op_ne (pe_ix (ix_tupK (K := K)) (pv 2) pe_int (fun _ _ => rfl)) (pe_callB (call_lenLK (K := K)) (by rfl) e.n_len (by decide +kernel) (pa_cons (pe_ix (ix_tupK (K := K)) (pe_ix (ix_listK (K := K)) (pv 1) pe_int (fun _ _ => rfl)) pe_int (fun _ _ => rfl)) pa_nil)) (nomark _)) (pw_or1 (pt_cmpR op_isNo (pv 3) pe_non (nomark _)))))) (pss_one (ps_ret pe_non)) pss_nil)
    (pss_cons (ps_set (i := 4) sc__law_tells.nd rfl (Or.inl rfl) (pe_lst (pa_cons (pv 3) pa_nil)))
    (pss_cons (ps_set (i := 5) sc__law_tells.nd rfl (Or.inl rfl) (pe_ix (ix_tupK (K := K)) (pe_ix (ix_listK (K := K)) (pv 1) pe_int (fun _ _ => rfl)) pe_int (fun _ _ => rfl)))
    (pss_cons (ps_for PassesOwn.never rfl (pi_listK (K := K) (pe_slice (sl_listK (K := K)) (pv 1) (po_some pe_int) po_none)) (pg_tupK (K := K) (n := 2) rfl (pgs_cons (pg_name (i := 6) sc__law_tells.nd rfl (Or.inl rfl)) (pgs_cons (pg_name (i := 7) sc__law_tells.nd rfl (Or.inl rfl)) pgs_nil))) (pss_cons (ps_set (i := 8) sc__law_tells.nd rfl (Or.inl rfl) (pe_ifExp (pt_cmpR (op_eqDK hr.units (K := K)) (pe_slice (sl_listK (K := K)) (pv 6) po_none (po_some pe_int)) (pe_lst (pa_cons pe_int pa_nil)) (nomark _)) (pe_call G__law_read_triples (hr.mono (by omega)) (by rfl) e.m__law_read_triples e.k__law_read_triples e.b__law_read_triples .nil pass0 (pa_cons (pv 6) (pa_cons pe_int pa_nil))) pe_non))
    (pss_cons (ps_if (PW.pt (pw_or (pt_cmpR op_isNo (pv 8) pe_non (nomark _)) (pw_or1 (pt_cmpR op_ne (pe_ix (ix_tupK (K := K)) (pv 8) pe_int (fun _ _ => rfl)) (pe_callB (call_lenLK (K := K)) (by rfl) e.n_len (by decide +kernel) (pa_cons (pv 6) pa_nil)) (nomark _))))) (pss_one ps_break) pss_nil)
    (pss_cons (ps_asg (pe_ix (ix_listK (K := K)) (pv 4) (pe_un un_neg pe_int) (fun _ _ => rfl)) (pg_unlK (K := K) (n := 2) rfl (pgs_cons (pg_name (i := 9) sc__law_tells.nd rfl (Or.inl rfl)) (pgs_cons (pg_name (i := 10) sc__law_tells.nd rfl (Or.inl rfl)) pgs_nil))))
    (pss_cons (ps_setLc (i := 10) (own := [("row", 11)]) (by rfl) sc__law_tells.nd rfl rfl (sw_true rfl rfl rfl (by decide +kernel)) (pi_listK (K := K) (pv 10)) (blkOk_by (own := [("row", 11)]) (N := nm__law_tells) (sc := defScope s__law_tells) (by decide +kernel)) (fun _ _ _ _ _ => (pg_name (i := 11) sc__law_tells.nd rfl (Or.inl rfl))) (fun _ _ _ _ _ => pts_nil) (fun _ _ _ _ _ => (pe_callTy (call_listLK (K := K)) (by rfl) e.n_list (by decide +kernel) (pa_cons (pv 11) pa_nil))))
    (pss_cons (ps_set (i := 12) sc__law_tells.nd rfl (Or.inl rfl) pe_bl)
    (pss_cons (ps_for PassesOwn.never rfl (pi_listK (K := K) (pe_ix (ix_tupK (K := K)) (pv 8) pe_int (fun _ _ => rfl))) (pg_tupK (K := K) (n := 3) rfl (pgs_cons (pg_name (i := 13) sc__law_tells.nd rfl (Or.inl rfl)) (pgs_cons (pg_name (i := 14) sc__law_tells.nd rfl (Or.inl rfl)) (pgs_cons (pg_name (i := 15) sc__law_tells.nd rfl (Or.inl rfl)) pgs_nil)))) (pss_one (ps_if (PW.pt (pw_or (pt_not (pt_val (pv 12))) (pw_or (pt_cmpR op_gt (pv 13) pe_int (nomark _)) (pw_or1 (pt_cmpR op_ne (pv 14) (pe_op op_add (pe_callB (call_lenLK (K := K)) (by rfl) e.n_len (by decide +kernel) (pa_cons (pe_ix (ix_listK (K := K)) (pv 10) (pv 13) (fun _ _ => rfl)) pa_nil)) pe_int) (nomark _)))))) (pss_one (ps_set (i := 12) sc__law_tells.nd rfl (Or.inl rfl) pe_bl)) (pss_one (ps_expr (pe_bmK (K := K) PySem.F.plainAttrs_list PySem.F.slot_list_append PySem.F.type_list_append mt_append (pe_ix (ix_listK (K := K)) (pv 10) (pv 13) (fun _ _ => rfl)) (pa_cons (pv 15) pa_nil)))))))
    (pss_cons (ps_if (pt_not (pt_val (pv 12))) (pss_one ps_break) pss_nil)
    (pss_cons (ps_expr (pe_bmK (K := K) PySem.F.plainAttrs_list PySem.F.slot_list_append PySem.F.type_list_append mt_append (pv 4) (pa_cons (pe_lst (pa_cons (pe_op op_add (pv 9) pe_int) (pa_cons (pv 10) pa_nil))) pa_nil)))
    (pss_one (ps_set (i := 5) sc__law_tells.nd rfl (Or.inl rfl) (pv 7))))))))))))
    (pss_one (ps_ret (pe_tup (pa_cons (pe_ix (ix_tupK (K := K)) (pv 2) pe_int (fun _ _ => rfl)) (pa_cons (pv 4) (pa_cons (pv 5) pa_nil)))))))))))))), ?_⟩
    refine enter (st__law_tells _) ?_
    walk_at "i"
    walk_at "r"
    refine ⟨a, ds, l, rfl, ha, hl, hby, hR, fun p us H1 _ k1 hp hL => ?_⟩
    have hul : us.length = l.length := Paired.length hL
    walk_at "r"
    rw [hul]
    refine ite_dec (fun h1 => ?_) (fun h1 => ?_)
    · walk_at "r"
      exact no (tell_short (by omega)) H1 k1
    obtain ⟨z0, z1, z2, rest, rfl⟩ := three (show ¬ l.length < 3 by omega)
    obtain ⟨t0, t1, t2, r0, r1, r2, ur, rfl, ht0, hr0, ht1, hr1, ht2, hr2, hLr⟩ := hL.three
    have c0 := hR.recs z0 (by simp)
    have c1 := hR.recs z1 (by simp)
    have c2 := hR.recs z2 (by simp)
    have hr3 : ∀ z ∈ rest, z.1.length ≤ ds.length ∧ (∀ b ∈ z.1, b ∈ ds) := fun z hz => hR.recs z (List.mem_cons_of_mem _ (List.mem_cons_of_mem _ (List.mem_cons_of_mem _ hz)))
    have at0 : atI (.ref t0 :: .ref t1 :: .ref t2 :: ur : List V) 0 = some (.ref t0) := atI_nat (j := 0) rfl
    have at1 : atI (.ref t0 :: .ref t1 :: .ref t2 :: ur : List V) 1 = some (.ref t1) := atI_nat (j := 1) rfl
    have at2 : atI (.ref t0 :: .ref t1 :: .ref t2 :: ur : List V) 2 = some (.ref t2) := atI_nat (j := 2) rfl
    have e0 := tell_3 (z0 := z0) (z1 := z1) (z2 := z2) (r := rest)
    clear hL
    walk_at "r"
    intro x2 H2 n2 k2 hx2
    refine w_neL (xs := z2.1) (ys := [2]) (k2.get hr2 (by simp)) hx2 ?_
    walk_at "r"
    refine ite_ndec (fun h2 => ?_) (fun h2 => ?_)
    · walk_at "r"
      exact no (by rw [e0, if_neg h2]) H2 (k1.trans k2)
    rw [if_pos h2] at e0
    have k12 := k1.trans k2
    have hp2 := k2.get hp (by simp)
    have ht02 := k2.get ht0 (by simp)
    have hr02 := k2.get hr0 (by simp)
    have ht12 := k2.get ht1 (by simp)
    have hr12 := k2.get hr1 (by simp)
    have ht22 := k2.get ht2 (by simp)
    have hLr2 := hLr.mono k2
    clear hx2 k2 k1 hp ht0 hr0 ht1 hr1 ht2 hr2 hLr
    walk_at "r"
    rw [cutV_1]
    intro x3 H3 n3 k3 hx3
    walk_at "r"
    intro x4 H4 n4 k4 hx4
    refine w_neL (xs := z0.1.take 1) (ys := [1]) (k4.get hx3 (by simp)) hx4 ?_
    have k24 := k3.trans k4
    have k14 := k12.trans k24
    have hp4 := k24.get hp2 (by simp)
    have ht04 := k24.get ht02 (by simp)
    have hr04 := k24.get hr02 (by simp)
    have ht14 := k24.get ht12 (by simp)
    have hr14 := k24.get hr12 (by simp)
    have ht24 := k24.get ht22 (by simp)
    have hLr4 := hLr2.mono k24
    clear hx3 hx4 k3 k4 k24 k12 hp2 ht02 hr02 ht12 hr12 ht22 hLr2
    walk_at "r"
    refine ite_ndec (fun h3 => ?_) (fun h3 => ?_)
    · walk_at "r"
      exact no (by rw [e0]; unfold pturn; rw [take1n h3]; rfl) H4 k14
    obtain ⟨hlen0, hhd0⟩ := take1 h3
    have et : pturn z0.1 = pend z0.1 (pnum z0.1 1) := phead_yes hlen0 hhd0
    walk_at "r"
    intro x5 H5 n5 k5 hx5
    refine w_eqL (xs := z1.1) (ys := []) (k5.get hr14 (by simp)) hx5 ?_
    have k15 := k14.trans k5
    have hp5 := k5.get hp4 (by simp)
    have ht05 := k5.get ht04 (by simp)
    have hr05 := k5.get hr04 (by simp)
    have ht15 := k5.get ht14 (by simp)
    have hr15 := k5.get hr14 (by simp)
    have ht25 := k5.get ht24 (by simp)
    have hLr5 := hLr4.mono k5
    clear hx5 k5 k14 hp4 ht04 hr04 ht14 hr14 ht24 hLr4
    walk_at "r"
    refine ite_dec (fun h4 => ?_) (fun h4 => ?_)
    · walk_at "r"
      exact no (by rw [e0, h4]; cases pturn z0.1 <;> rfl) H5 k15
    walk_at "r"
    refine ⟨r0, z0.1, 1, rfl, hr05, by omega, fun b hb => (hby b (c0.2 b hb)).1, fun v2 H6 k6 hv2 => ?_⟩
    have hp6 := k6.get hp5 (by simp)
    have ht16 := k6.get ht15 (by simp)
    have hr16 := k6.get hr15 (by simp)
    walk_at "r"
    refine ⟨r1, z1.1, rfl, hr16, by omega, fun b hb => (hby b (c1.2 b hb)).1, fun v3 H7 k7 hv3 => ?_⟩
    have k67 := k6.trans k7
    have k17 := k15.trans k67
    have hp7 := k67.get hp5 (by simp)
    have ht07 := k67.get ht05 (by simp)
    have hr07 := k67.get hr05 (by simp)
    have ht27 := k67.get ht25 (by simp)
    have hLr7 := hLr5.mono k67
    clear hp6 ht16 hr16 hp5 ht05 hr05 ht15 hr15 ht25 hLr5 k15 k67 k6
    cases hz : pnum z0.1 1 with
    | none =>
      rw [hz] at hv2
      obtain rfl : v2 = .non := hv2
      walk_at "r"
      exact no (by rw [e0, et, pend_no hz]; rfl) H7 k17
    | some z =>
    obtain ⟨tn, q1⟩ := z
    rw [hz] at hv2
    obtain ⟨tt, u, rfl, htt, rfl⟩ := hv2
    have htt7 := k7.get htt (by simp)
    have hq1 := (pnum_at hz (by omega)).2
    clear htt k7
    walk_at "r"
    rw [List.length_map]
    refine ite_ndec (fun h5 => ?_) (fun h5 => ?_)
    · walk_at "r"
      exact no (by rw [e0, et, pend_more hz (by omega)]; rfl) H7 k17
    have et2 : pturn z0.1 = some tn := by rw [et]; exact pend_all hz (by omega)
    rw [et2] at e0
    cases hb0 : pbase z1.1 with
    | none =>
      rw [hb0] at hv3
      obtain rfl : v3 = .non := hv3
      walk_at "r"
      exact no (by rw [e0, hb0]; rfl) H7 k17
    | some b0 =>
    rw [hb0] at hv3 e0
    have hv3 : vSt H7 b0 v3 := hv3
    have e1 : tell (z0 :: z1 :: z2 :: rest) = some (tn, b0 :: (scan b0 z2.2 rest).1, (scan b0 z2.2 rest).2) := e0
    obtain ⟨hb8, hbl⟩ := pbase_ok hb0
    have d0 := Re.drop hby (i := 0) (z := z0) hR rfl
    have d1 := Re.drop hby (i := 1) (z := z1) hR rfl
    have d2 := Re.drop hby (i := 2) (z := z2) hR rfl
    have d3 : ∀ i z, rest[i]? = some z → z.2 = lastE z2.2 (rest.take i) + (My.rec z.1).length ∧ z.2 ≤ ds.length := fun i z h => Re.drop hby (i := i + 3) (z := z) hR (by simpa using h)
    simp only [List.take_succ_cons, List.take_zero, lastE] at d0 d1 d2
    have hurl : ur.length = rest.length := Paired.length hLr7
    have hrlen : rest.length ≤ 400000 := by have := hR.len (Nat.zero_le _); simp only [List.length_cons] at this; omega
    have q2 : ∀ v H', Keep [] H H' → vTell H' (some (tn, b0 :: (scan b0 z2.2 rest).1, (scan b0 z2.2 rest).2)) v → Q v H' := fun v H' k h => q v H' k (by rw [e1]; exact h)
    obtain ⟨sb, rsb, rfl, hsb, hRb⟩ := hv3
    clear e0 e1 et et2 no q hz hb0 ht07 hr07 hhd0 hlen0 h3 h4
    walk_at "r"
    intro S H8 nS k8 hS
    have nS0 : H S = none := k17.free nS (by simp)
    have hsbS : sb ≠ S := ne_of_none hsb nS
    have hst8 : vStN (only S) H8 b0 (.ref sb) := ⟨sb, rsb, rfl, k8.get hsb (by simp), (hRb.only nS).mono k8, only_no hsbS⟩
    have hp8 := k8.get hp7 (by simp)
    have ht28 := k8.get ht27 (by simp)
    have htt8 := k8.get htt7 (by simp)
    have hLr8 : Paired (fun v z => ∃ t r, v = V.ref t ∧ H8 t = some (.tup [.ref r, .int (z.2 : Int)]) ∧ H8 r = some (.lst (z.1.map V.int)) ∧ r ≠ S) ur rest := Paired.mapP hLr7 fun _ _ ⟨t, r, e, h1, h2⟩ => ⟨t, r, e, k8.get h1 (by simp), k8.get h2 (by simp), ne_of_none h2 nS⟩
    have k18 := k17.trans k8
    clear hsb hRb hp7 ht27 htt7 hLr7 k8 k17
    walk_at "r"
    rw [cut3_from]
    intro sl H9 ns k9 hsl
    have nSs : S ≠ sl := ne_of_none hS ns
    have hS9 := k9.get hS (by simp)
    have hst9 := hst8.mono k9
    have htt9 := k9.get htt8 (by simp)
    have hLr9 : Paired (fun v z => ∃ t r, v = V.ref t ∧ H9 t = some (.tup [.ref r, .int (z.2 : Int)]) ∧ H9 r = some (.lst (z.1.map V.int)) ∧ r ≠ S) ur rest := Paired.mapP hLr8 fun _ _ ⟨t, r, e, h1, h2, h3⟩ => ⟨t, r, e, k9.get h1 (by simp), k9.get h2 (by simp), h3⟩
    have k19 := k18.trans k9
    clear hS hst8 htt8 hLr8 k9 k18 hp8 ht28
    have fin : ∀ (H' : Hp) us bss e', Keep [] H H' → H' tt = some (.tup [.int (tn : Int), .int (q1 : Int)]) → H' S = some (.lst us) → Paired (fun v bs => vStN (only S) H' bs v) us bss → b0 :: (scan b0 z2.2 rest).1 = bss → (scan b0 z2.2 rest).2 = e' → ∀ t9 H9, Keep [] H' H9 → H9 t9 = some (.tup [.int (tn : Int), .ref S, .int (e' : Int)]) → Q (.ref t9) H9 :=
      fun H' us bss e' k ht hS hP e1 e2 t9 H9 k9 h9 => q2 _ H9 (k.trans k9) ⟨t9, S, us, rfl, by rw [h9, e2], k9.get hS (by simp), by rw [e1]; exact Paired.mapP hP fun _ _ h => (h.mono k9).st⟩
    walk_at "r"
    refine forL (SqL.of hsl) (fun i σ H' => ∃ (v6 v7 v8 v9 v10 v11 v12 v13 v14 v15 : Option V) (e' : Nat) (us0 : List V) (vl : V) (bl0 : List Bs) (bs' : Bs),
        σ = [some (.ref a), some (.ref p), some (.ref tt), some (.ref sb), some (.ref S), some (.int (e' : Int)), v6, v7, v8, v9, v10, v11, v12, v13, v14, v15] ∧ Keep [S] H9 H' ∧ Keep [] H H' ∧ H' S = some (.lst (us0 ++ [vl])) ∧ Paired (fun v bs => vStN (only S) H' bs v) us0 bl0 ∧ vStN (only S) H' bs' vl ∧
        bs'.2.length = 8 ∧ (∀ row ∈ bs'.2, row.length ≤ e') ∧ e' = lastE z2.2 (rest.take i) ∧ e' ≤ ds.length ∧ us0.length ≤ i ∧
        b0 :: (scan b0 z2.2 rest).1 = bl0 ++ [bs'] ++ (scan bs' e' (rest.drop i)).1 ∧ (scan b0 z2.2 rest).2 = (scan bs' e' (rest.drop i)).2)
      ⟨_, _, _, _, _, _, _, _, _, _, z2.2, [], _, [], b0, rfl, Keep.refl, k19, hS9, .nil, hst9, hb8, fun row hrow => Nat.le_trans (hbl row hrow) ?_, rfl, d2.2, Nat.le_refl _, rfl, rfl⟩ (fun i σ H' _ h => ?_) ?_ ?_
    · have := rec_len z1.1
      omega
    · obtain ⟨_, _, _, _, _, _, _, _, _, _, _, _, _, _, _, _, k, _⟩ := h
      exact SqL.of (k.get hsl (by simp [Ne.symm nSs]))
    · rintro i x σ H10 hx ⟨v6, v7, v8, v9, v10, v11, v12, v13, v14, v15, e', us0, vl, bl0, bs', rfl, k10, kH10, hS10, hP, hvl, h8, hbd, he', hel, hu0, hsc1, hsc2⟩
      clear hS9 hst9
      obtain ⟨z, hz, tz, rz, rfl, htz, hrz, nSr⟩ := pd_get hLr9 hx
      have hzm := hr3 z (List.mem_of_getElem? hz)
      obtain ⟨dz1, dz2⟩ := d3 i z hz
      rw [← he'] at dz1
      have hil := (List.getElem?_eq_some_iff.mp hz).1
      have hdr : rest.drop i = z :: rest.drop (i + 1) := by
        rw [List.drop_eq_getElem_cons hil]
        congr 1
        exact (List.getElem?_eq_some_iff.mp hz).2
      rw [hdr] at hsc1 hsc2
      have htz10 := k10.2 _ _ htz
      have hrz10 := k10.get hrz (by simp [nSr])
      have htt10 := k10.2 _ _ htt9
      have hzn : ∀ b ∈ z.1, 0 ≤ b := fun b hb => (hby b (hzm.2 b hb)).1
      have brk : note1 bs' z.1 = none → ∀ H', Keep [] H10 H' → ∀ t9 H9, Keep [] H' H9 → H9 t9 = some (.tup [.int (tn : Int), .ref S, .int (e' : Int)]) → Q (.ref t9) H9 := fun hn H' k t9 H9 k9 h9 => by
        rw [scan_none hn] at hsc1 hsc2
        rw [List.append_nil] at hsc1
        exact fin H' _ _ e' (kH10.trans k) (k.get htt10 (by simp)) (k.get hS10 (by simp)) (Paired.snoc (Paired.mapP hP fun _ _ h => h.mono k) (hvl.mono k)) hsc1 hsc2 t9 H9 k9 h9
      walk_at "r"
      rw [cutV_1]
      intro y1 H11 ny1 k11 hy1
      walk_at "r"
      intro y2 H12 ny2 k12 hy2
      refine w_eqL (xs := z.1.take 1) (ys := [4]) (k12.get hy1 (by simp)) hy2 ?_
      have k1012 := k11.trans k12
      have hrz12 := k1012.get hrz10 (by simp)
      have hS12 := k1012.get hS10 (by simp)
      have htt12 := k1012.get htt10 (by simp)
      clear hy1 hy2 k11 k12
      walk_at "r"
      refine ite_dec (fun h1 => ?_) (fun h1 => ?_)
      rotate_left
      · have hn : note1 bs' z.1 = none := by unfold note1 pnote; rw [take1n h1]; rfl
        walk_at "r"
        intro t9 H13 n13 k13 h13
        exact brk hn H12 k1012 t9 H13 k13 h13
      obtain ⟨hl1, hd1⟩ := take1 h1
      have en : pnote z.1 = pend z.1 (ptrs z.1 1) := phead_yes hl1 hd1
      walk_at "r"
      refine ⟨rz, z.1, 1, rfl, hrz12, by omega, hzn, fun v8' H13 k13 hv8 => ?_⟩
      have k1013 := k1012.trans k13
      have hS13 := k13.get hS12 (by simp)
      have htt13 := k13.get htt12 (by simp)
      have hrz13 := k13.get hrz12 (by simp)
      clear hS12 htt12 hrz12 k13 k1012
      cases hz2 : ptrs z.1 1 with
      | none =>
        rw [hz2] at hv8
        obtain rfl : v8' = .non := hv8
        have hn : note1 bs' z.1 = none := by unfold note1; rw [en, pend_no hz2]; rfl
        walk_at "r"
        intro t9 H14 n14 k14 h14
        exact brk hn H13 k1013 t9 H14 k14 h14
      | some y =>
      obtain ⟨ts, q2'⟩ := y
      rw [hz2] at hv8
      obtain ⟨t8, u8, rfl, ht8, tl, ust, rfl, htl, hT⟩ := hv8
      have hq2 := fw_trs (ds := z.1) 1 ts q2' (by omega) hz2
      walk_at "r"
      rw [List.length_map]
      refine ite_ndec (fun h2 => ?_) (fun h2 => ?_)
      · have hn : note1 bs' z.1 = none := by unfold note1; rw [en, pend_more hz2 (by omega)]; rfl
        walk_at "r"
        intro t9 H14 n14 k14 h14
        exact brk hn H13 k1013 t9 H14 k14 h14
      have en2 : pnote z.1 = some ts := by rw [en]; exact pend_all hz2 (by omega)
      have hnt := pnote_ok en2
      have e3 : note1 bs' z.1 = (nxs bs'.2 ts).map fun rows => (bs'.1 + 1, rows) := by unfold note1; rw [en2]; rfl
      have hlast := atI_last us0 vl
      have hvl13 := hvl.mono k1013
      obtain ⟨sx, rsx, rfl, hsx, hRx, nsx⟩ := hvl13
      clear hrz13 hz2 en en2
      walk_at "r"
      obtain ⟨tsx, hx1, hx2, hx3, hx4⟩ := hRx
      refine lcL (SqL.of hx1) (fun D j H' => Keep [] H13 H' ∧ RowsN H13 H' D (bs'.2.take j)) (fun D H14 nD k14 hD => ⟨k14, by rw [List.take_zero]; exact RowsN.start nD hD⟩) (fun D j H' _ h => SqL.of (h.1.get hx1 (by simp))) ?_ ?_
      · rintro D j y H14 nD hy ⟨k14, hRd⟩
        rw [List.getElem?_map, Option.map_eq_some_iff] at hy
        obtain ⟨t, ht, rfl⟩ := hy
        obtain ⟨row, hrow, ws, hws, hpw⟩ := pd_get hx3 ht
        have hws14 := k14.get hws (by simp)
        obtain ⟨us, hD⟩ : ∃ us, H14 D = some (.lst us) := by obtain ⟨ts, h, _⟩ := hRd; exact ⟨_, h⟩
        have hul2 := hRd.len hD
        rw [List.length_take] at hul2
        have hus8 : us.length ≤ 8 := by omega
        walk_at "i"
        walk_at "r"
        intro l H15 nl k15 h15
        have hD15 := k15.get hD (by simp)
        refine w_rApp hD15 (by rw [PySem.sizeLine_eq]; omega) fun H16 k16 h16 => ?_
        refine ⟨(k14.trans k15).mut nD k16, ?_⟩
        rw [List.take_add_one, hrow]
        exact RowsN.push hRd k14 hD nl k15 ⟨ws, h15, Paired.mapP hpw fun _ _ h => vD.keep h (k14.trans k15)⟩ k16 h16
      rintro R H14 nR ⟨k14, hRd⟩
      rw [List.length_map, Paired.length hx3, List.take_length] at hRd
      have ht814 := k14.get ht8 (by simp)
      have htl14 := k14.get htl (by simp)
      have hT14 := vTs.keep hT k14
      have hS14 := k14.get hS13 (by simp)
      have htt14 := k14.get htt13 (by simp)
      have hnS13 : H13 S ≠ none := by rw [hS13]; simp
      clear ht8 hsx hx1 hx2 hx3 hx4 nsx
      walk_at "r"
      refine forL (SqL.of htl14) (fun j σ H' => ∃ (v13 v14 v15 : Option V) (g : Bool) (rk : Rws), σ = [some (.ref a), some (.ref p), some (.ref tt), some (.ref sb), some (.ref S), some (.int (e' : Int)), some (.ref rz), some (.int (z.2 : Int)), some (.ref t8), some (.int (bs'.1 : Int)), some (.ref R), v11, some (.bl g), v13, v14, v15] ∧
          Keep [] H13 H' ∧ RowsN H13 H' R rk ∧ rk.length = 8 ∧ nxs bs'.2 (ts.take j) = if g = true then some rk else none)
        ⟨_, _, _, true, bs'.2, rfl, k14, hRd, h8, rfl⟩ (fun j σ H' _ h => ?_) ?_ ?_
      · obtain ⟨_, _, _, _, _, _, k, _⟩ := h
        exact SqL.of (k.get htl (by simp))
      · rintro j y σ H15 hy ⟨v13, v14, v15, g, rk, rfl, k15, hRk, hr8, hnx⟩
        obtain ⟨tq, htq, tb, bv, rfl, htb, hdd⟩ := pd_get hT hy
        have htb15 := k15.get htb (by simp)
        have hdd15 := vD.keep hdd k15
        clear htb hdd ht814 htl14 hT14 hS14 htt14 hRd
        cases g with
        | false =>
          have hnx : nxs bs'.2 (ts.take j) = none := hnx
          walk_at "r"
          refine ⟨_, _, _, false, rk, rfl, k15, hRk, hr8, ?_⟩
          exact nxs_none (i := j) (by rw [List.take_take, Nat.min_eq_left (by omega)]; exact hnx)
        | true =>
          have hnx : nxs bs'.2 (ts.take j) = some rk := hnx
          have hst := nxs_step hnx htq
          walk_at "r"
          refine ite_dec (fun h7 => ?_) (fun h7 => ?_)
          · walk_at "r"
            exact ⟨_, _, _, false, rk, rfl, k15, hRk, hr8, by rw [hst]; exact nx1_no (fun z => by omega)⟩
          have hRk' := hRk
          obtain ⟨tsk, g1, g2, g3, g4⟩ := hRk'
          have htkl := Paired.length g3
          obtain ⟨t, ht⟩ : ∃ t, tsk[tq.r]? = some t := ⟨_, List.getElem?_eq_getElem (by omega)⟩
          obtain ⟨row, hrow, ws, hws, hpw⟩ := pd_get g3 ht
          have hatr : atI (tsk.map V.ref) (tq.r : Int) = some (.ref t) := atI_nat (by rw [List.getElem?_map, ht]; rfl)
          have hgd : rk.getD tq.r [] = row := by rw [List.getD_eq_getElem?_getD, hrow]; rfl
          have hwl := Paired.length hpw
          walk_at "r"
          refine ite_ndec (fun h6 => ?_) (fun h6 => ?_)
          · walk_at "r"
            exact ⟨_, _, _, false, rk, rfl, k15, hRk, hr8, by rw [hst]; exact nx1_no (fun z => h6 (by rw [hgd] at z; omega))⟩
          have hyes := nx1_yes (rows := rk) (t := tq) ⟨by omega, by rw [hgd]; omega⟩
          have hwb : ws.length ≤ 1000000 := by
            have hb := nxs_bound hnx hbd row (List.mem_of_getElem? hrow)
            have : (ts.take j).length ≤ ts.length := by rw [List.length_take]; omega
            omega
          walk_at "r"
          intro H16 k16 h16
          exact ⟨_, _, _, true, rk.set tq.r (rk.getD tq.r [] ++ [tq.d]), rfl, k15.mut (g4 t (List.mem_cons_of_mem _ (List.mem_of_getElem? ht))) k16, by rw [hgd]; exact RowsN.grow g1 g2 g3 g4 ht hrow hws hdd15 k16 h16, by rw [List.length_set]; exact hr8, by rw [hst, hyes]; rfl⟩
      · rintro σ H15 ⟨v13, v14, v15, g, rk, rfl, k15, hRk, hr8, hnx⟩
        rw [show ust.length = ts.length from Paired.length hT, List.take_length] at hnx
        have k1015 := k1013.trans k15
        have hS15 := k15.get hS13 (by simp)
        have htt15 := k15.get htt13 (by simp)
        clear ht814 htl14 hT14 hS14 htt14 hRd hT htl
        cases g with
        | false =>
          have hnx : nxs bs'.2 ts = none := hnx
          have hn : note1 bs' z.1 = none := by rw [e3, hnx]; rfl
          walk_at "r"
          intro t9 H16 n16 k16 h16
          exact brk hn H15 k1015 t9 H16 k16 h16
        | true =>
          have hnx : nxs bs'.2 ts = some rk := hnx
          have hn : note1 bs' z.1 = some (bs'.1 + 1, rk) := by rw [e3, hnx]; rfl
          obtain ⟨n8, nbd⟩ := note1_ok hn h8 hbd
          rw [scan_some hn] at hsc1 hsc2
          have hrcl := rec_len z.1
          have hlen2 : (us0 ++ [V.ref sx]).length ≤ 400001 := by rw [List.length_append, List.length_singleton]; omega
          walk_at "r"
          intro s1 H16 ns1 k16 hs1
          have hS16 := k16.get hS15 (by simp)
          have nsS : s1 ≠ S := Ne.symm (ne_of_none hS15 ns1)
          walk_at "r"
          intro H17 k17 h17
          walk_at "r"
          have hP17 : Paired (fun v bs => vStN (only S) H17 bs v) (us0 ++ [V.ref sx]) (bl0 ++ [bs']) := Paired.snoc (Paired.mapP hP fun _ _ h => (h.mono (k1015.trans k16)).keepS k17) ((hvl.mono (k1015.trans k16)).keepS k17)
          refine ⟨_, _, _, _, _, _, _, _, _, _, z.2, us0 ++ [V.ref sx], .ref s1, bl0 ++ [bs'], (bs'.1 + 1, rk), rfl, k10.trans ((k1015.trans k16).any.trans k17), (kH10.trans (k1015.trans k16)).mut nS0 k17, h17, hP17, ⟨s1, R, rfl, ?_, ((hRk.mono k16).only' hnS13).keepN k17 only_S, only_no nsS⟩, n8, fun row hrow => by have := nbd row hrow; omega, ?_, dz2, by rw [List.length_append, List.length_singleton]; omega, by rw [hsc1, List.append_assoc, List.append_assoc, List.append_assoc]; rfl, hsc2⟩
          · rw [k17.get hs1 (by simp [nsS])]
            rfl
          · rw [List.take_add_one, hz]
            exact (lastE_snoc z _ _).symm
    · rintro σ H10 ⟨v6, v7, v8, v9, v10, v11, v12, v13, v14, v15, e', us0, vl, bl0, bs', rfl, k10, kH10, hS10, hP, hvl, h8, hbd, he', hel, hu0, hsc1, hsc2⟩
      rw [hurl, List.drop_length] at hsc1 hsc2
      have hsc1 : b0 :: (scan b0 z2.2 rest).1 = bl0 ++ [bs'] ++ [] := hsc1
      have hsc2 : (scan b0 z2.2 rest).2 = e' := hsc2
      rw [List.append_nil] at hsc1
      have htt10 := k10.2 _ _ htt9
      walk_at "r"
      intro t9 H11 n11 k11 h11
      exact fin H10 _ _ e' kH10 htt10 hS10 (Paired.snoc hP hvl) hsc1 hsc2 t9 H11 k11 h11
end My

end
section
set_option maxHeartbeats 4000000
/-! bytes of what is written; groups of triples: plain Lean -/
namespace My
open W PySem L2
def by8 (x : List Int) : Prop := ∀ b ∈ x, 0 ≤ b ∧ b < 256
theorem by_nil : by8 [] := fun b hb => by cases hb
theorem by_wn {n : Nat} : by8 (wn n) := fun b hb => wn_byte n n (Nat.le_refl _) b hb
theorem by_app {x y : List Int} (h : by8 x) (k : by8 y) : by8 (x ++ y) := fun b hb => (List.mem_append.mp hb).elim (h b) (k b)
theorem by_cons {c : Int} {x : List Int} (h : 0 ≤ c ∧ c < 256) (k : by8 x) : by8 (c :: x) := fun b hb => (List.mem_cons.mp hb).elim (fun e => e ▸ h) (k b)
theorem by_flat {xs : List (List Int)} (h : ∀ x ∈ xs, by8 x) : by8 xs.flatten := fun b hb => by
  obtain ⟨x, hx, hb⟩ := List.mem_flatten.mp hb
  exact h x hx b hb
theorem by_map {α : Type} {f : α → List Int} {l : List α} (h : ∀ a, by8 (f a)) : ∀ x ∈ l.map f, by8 x := fun x hx => by
  obtain ⟨a, _, rfl⟩ := List.mem_map.mp hx
  exact h a
theorem by_wl {xs : List (List Int)} (h : ∀ x ∈ xs, by8 x) : by8 (wl xs) := by_app by_wn (by_flat h)
theorem by_ws {s : List Nat} : by8 (ws s) := by_wl (by_map fun _ => by_wn)
theorem by_wm (m : Nat × Nat) : by8 (wm m) := by_app by_wn by_wn
theorem by_wd (d : Dd) : by8 (wd d) := by
  cases d with
  | back n => exact by_cons (by decide) by_wn
  | chg m rm bh n t =>
    refine by_cons (by decide) (by_app (by_app (by_app (by_app by_ws (by_wl (by_map by_wm))) ?_) by_wn) by_ws)
    cases bh with
    | none => exact by_cons (by decide) by_nil
    | some m => exact by_cons (by decide) (by_wm m)
theorem by_wt (t : Tri) : by8 (wt t) := by_app (by_app by_wn by_wn) (by_wd t.d)
theorem by_wts {ts : List Tri} : by8 (wts ts) := by_wl (by_map by_wt)
theorem by_tl4 {t : Int} (h : 0 ≤ t ∧ t < 4294967296) : by8 (tl4 t) := by
  intro b hb
  simp only [tl4, List.mem_cons, List.not_mem_nil, or_false] at hb
  omega
theorem by_rec {x : List Int} (h : by8 x) : by8 (My.rec x) := by_app (by_app by_wn h) (by_tl4 (ck_rng x))
theorem by_take {x : List Int} {n : Nat} (h : by8 x) : by8 (x.take n) := fun b hb => h b (List.mem_of_mem_take hb)
theorem by_drop {x : List Int} {n : Nat} (h : by8 x) : by8 (x.drop n) := fun b hb => h b (List.mem_of_mem_drop hb)
theorem by_set {x : List Int} {n : Nat} {v : Int} (h : by8 x) (k : 0 ≤ v ∧ v < 256) : by8 (x.set n v) := fun b hb => (List.mem_or_eq_of_mem_set hb).elim (h b) (fun e => e ▸ k)
/-- counts that go on -/
def lens (rows : Rws) : List Nat := rows.map List.length
def fg (rows : Rws) : List (List Tri) → Option Rws
  | [] => some rows
  | ts :: gs => (nxs rows ts).bind fun r => fg r gs
theorem fg_snoc (rows : Rws) (ts : List Tri) : ∀ gs, fg rows (gs ++ [ts]) = (fg rows gs).bind fun r => nxs r ts := by
  intro gs
  induction gs generalizing rows with
  | nil => show (nxs rows ts).bind (fun r => some r) = nxs rows ts; cases nxs rows ts <;> rfl
  | cons a r ih =>
    show (nxs rows a).bind (fun z => fg z (r ++ [ts])) = ((nxs rows a).bind fun z => fg z r).bind _
    cases nxs rows a with
    | none => rfl
    | some z => exact ih z
theorem fg_app (rows : Rws) (g h : List (List Tri)) : fg rows (g ++ h) = (fg rows g).bind fun r => fg r h := by
  induction g generalizing rows with
  | nil => rfl
  | cons a r ih =>
    show (nxs rows a).bind (fun z => fg z (r ++ h)) = ((nxs rows a).bind fun z => fg z r).bind _
    cases nxs rows a with
    | none => rfl
    | some z => exact ih z
/-- a deed that is small -/
def sml (d : Dd) : Prop := okd d ∧ (wd d).length ≤ 40 ∧ wdD0 d
  where wdD0 : Dd → Prop
    | .back _ => True
    | .chg _ rm _ _ _ => rm = []
def smt (t : Tri) : Prop := t.r < 8 ∧ t.p ≤ 1000 ∧ sml t.d
theorem smt.ok {t : Tri} (h : smt t) : okt t := ⟨show t.r < 2 ^ 70 by have := h.1; omega, show t.p < 2 ^ 70 by have := h.2.1; omega, h.2.2.1⟩
theorem smt.len {t : Tri} (h : smt t) : (wt t).length ≤ 60 := by
  have h1 : (wn t.r).length ≤ 1 := wn_len 0 t.r (by have := h.1; omega)
  have h2 : (wn t.p).length ≤ 2 := wn_len 1 t.p (by have := h.2.1; omega)
  have h3 := h.2.2.2.1
  unfold wt
  simp only [List.length_append]; omega
theorem flat_le {xs : List (List Int)} {n : Nat} (h : ∀ x ∈ xs, x.length ≤ n) : xs.flatten.length ≤ n * xs.length := by
  induction xs with
  | nil => simp
  | cons a r ih =>
    have h1 := h a (by simp)
    have h2 := ih (fun x hx => h x (by simp [hx]))
    rw [List.flatten_cons, List.length_append, List.length_cons, Nat.mul_succ]; omega
theorem wts_small {ts : List Tri} (h : ∀ t ∈ ts, smt t) (h2 : ts.length ≤ 100) : (wts ts).length ≤ 6001 := by
  have h3 := flat_le (xs := ts.map wt) (n := 60) (fun x hx => by obtain ⟨t, ht, rfl⟩ := List.mem_map.mp hx; exact (h t ht).len)
  have h4 : (wn ts.length).length ≤ 1 := wn_len 0 ts.length (by omega)
  unfold wts wl
  rw [List.length_append]
  rw [List.length_map] at h3 ⊢
  omega
/-- rows of small deeds -/
def okRows (rows : Rws) (M : Nat) : Prop := ∀ row ∈ rows, row.length ≤ M ∧ ∀ d ∈ row, sml d
theorem okRows_nx {ts : List Tri} : ∀ {rows r : Rws} {M : Nat}, nxs rows ts = some r → (∀ t ∈ ts, smt t) → okRows rows M → okRows r (M + ts.length) := by
  induction ts with
  | nil => intro rows r M h _ hM; cases h; exact hM
  | cons t ts ih =>
    intro rows r M h ht hM
    have h : (nx1 rows t).bind (fun r => nxs r ts) = some r := h
    cases hn : nx1 rows t with
    | none => rw [hn] at h; cases h
    | some z =>
      rw [hn] at h
      have h2 : okRows z (M + 1) := by
        intro row hrow
        unfold nx1 at hn
        split at hn
        · cases hn
          rcases List.mem_or_eq_of_mem_set hrow with hm | he
          · exact ⟨Nat.le_succ_of_le (hM row hm).1, (hM row hm).2⟩
          · have hg : (rows.getD t.r []).length ≤ M ∧ ∀ d ∈ rows.getD t.r [], sml d := by
              by_cases hl : t.r < rows.length
              · rw [List.getD_eq_getElem?_getD, List.getElem?_eq_getElem hl]
                exact hM _ (List.getElem_mem hl)
              · rw [List.getD_eq_getElem?_getD, List.getElem?_eq_none (by omega)]; exact ⟨Nat.zero_le _, fun d hd => by cases hd⟩
            rw [he]
            refine ⟨by rw [List.length_append, List.length_singleton]; omega, fun d hd => ?_⟩
            rcases List.mem_append.mp hd with hd | hd
            · exact hg.2 d hd
            · rw [List.mem_singleton] at hd; rw [hd]; exact (ht t (by simp)).2.2
        · cases hn
      have := ih (rows := z) (M := M + 1) h (fun x hx => ht x (by simp [hx])) h2
      rw [List.length_cons, show M + (ts.length + 1) = M + 1 + ts.length by omega]
      exact this
theorem wrow_small {rows : Rws} {M : Nat} (h : okRows rows M) (hM : M ≤ 100) (h8 : rows.length = 8) : ((rows.map fun row => wl (row.map wd)).flatten).length ≤ 33000 := by
  have h1 := flat_le (xs := rows.map fun row => wl (row.map wd)) (n := 4001) (fun x hx => by
    obtain ⟨row, hrow, rfl⟩ := List.mem_map.mp hx
    have h2 := flat_le (xs := row.map wd) (n := 40) (fun x hx => by obtain ⟨d, hd, rfl⟩ := List.mem_map.mp hx; exact ((h row hrow).2 d hd).2.1)
    have h3 := (h row hrow).1
    have h4 : (wn row.length).length ≤ 1 := wn_len 0 row.length (by omega)
    unfold wl
    rw [List.length_append]
    rw [List.length_map] at h2 ⊢
    omega)
  rw [List.length_map, h8] at h1
  omega
end My

end
section
set_option maxHeartbeats 4000000
local macro_rules | `(tactic| walk_at "k") => `(tactic| first
  | assumption
  | exact W.Keep.trans (by assumption) (by assumption)
  | exact And.intro (by grind [W.Keep, W.Kp]) (by grind [W.Keep, W.Kt])
  | grind [W.Keep, W.Kp])
local macro_rules | `(tactic| walk_at "f") => `(tactic| first
  | assumption
  | exact L2.SqL.of (by assumption)
  | exact L2.SqT.of (by assumption)
  | exact L2.SqL.of L2.upd_same
  | exact L2.SqT.of L2.upd_same
  | exact L2.upd_same
  | exact W.carryL (by assumption) (by assumption)
  | exact W.carryL (by assumption) (by walk_at "k")
  | exact W.carryT (by assumption) (by walk_at "k")
  | exact W.carry (by assumption) (by grind [W.Keep, W.Kp])
  | exact L2.SqL.of (W.carry (by assumption) (by grind [W.Keep, W.Kp]))
  | exact L2.SqT.of (W.carry (by assumption) (by grind [W.Keep, W.Kp])))
local macro_rules | `(tactic| walk_at "a") => `(tactic| first
  | assumption
  | rfl)
local macro_rules | `(tactic| walk_at "n") => `(tactic| first
  | assumption
  | exact Nat.zero_le _
  | decide
  | (simp only [List.length_cons, List.length_nil]; decide)
  | omega
  | (simp only [PySem.sizeLine_eq]; omega)
  | (simp only [List.length_map, List.length_append, List.length_cons, List.length_nil, PySem.sizeLine_eq]; omega)
  | (simp only [List.length_map, List.length_append, List.length_cons, List.length_nil, List.length_take, List.length_drop, PySem.sizeLine_eq]; omega)
  | (simp only [List.length_map, List.length_append, List.length_cons, List.length_nil, PySem.sizeLine_eq] at *; omega))
local macro_rules | `(tactic| walk_at "c") => `(tactic| first
  | assumption
  | decide
  | exact And.intro (by decide) (by decide)
  | exact Or.inr (And.intro (by decide) (by decide))
  | exact Or.inl (And.intro (by decide) (by decide))
  | exact And.intro (by decide) (And.intro (by decide) (by decide))
  | exact (show (0 : Int) < _ by decide)
  | exact And.intro (by omega) (by omega)
  | exact Or.inl (And.intro (by omega) (by omega))
  | exact Or.inr (And.intro (by omega) (by omega))
  | exact (show (0 : Int) < _ by omega))
local macro_rules | `(tactic| walk_at "v") => `(tactic| with_reducible first
  | refine W.v0 ?_ | refine W.v1 ?_ | refine W.v2 ?_ | refine W.v3 ?_ | refine W.v4 ?_ | refine W.v5 ?_ | refine W.v6 ?_ | refine W.v7 ?_ | refine W.v8 ?_
  | refine W.v9 ?_ | refine W.v10 ?_ | refine W.v11 ?_ | refine W.v12 ?_ | refine W.v13 ?_ | refine W.v14 ?_ | refine W.v15 ?_ | refine W.v16 ?_ | refine W.v17 ?_
  | refine W.g0 ?_ | refine W.g1 ?_ | refine W.g2 ?_ | refine W.g3 ?_ | refine W.g4 ?_ | refine W.g5 ?_ | refine W.g6 ?_ | refine W.g7 ?_ | refine W.g8 ?_
  | refine W.g9 ?_ | refine W.g10 ?_ | refine W.g11 ?_ | refine W.g12 ?_ | refine W.g13 ?_ | refine W.g14 ?_ | refine W.g15 ?_)
local macro_rules | `(tactic| walk_at "e") => `(tactic| with_reducible first
  | refine W.e_c ?_ | refine W.e_op ?_ | refine W.s_seq ?_ | refine W.s_asg ?_ | refine W.e_CB ?_ | refine W.a_cons ?_ | refine W.a_nil ?_ | refine W.e_call ?_
  | refine W.t_test ?_ | refine W.w_B ?_ | refine W.s_if ?_ | refine W.s_ret ?_ | refine W.s_drop ?_ | refine W.e_un ?_ | refine W.e_fld ?_ | refine W.s_fld ?_
  | refine W.e_meth ?_ | refine W.e_if ?_ | refine W.e_lst ?_ | refine W.e_tup ?_ | refine W.e_sl ?_ | refine W.o_none ?_ | refine W.o_some ?_ | refine W.w_part ?_
  | refine W.e_bm ?_ | refine W.e_bm0 ?_ | refine W.t_B ?_ | refine W.t_and ?_ | refine W.t_or ?_ | refine W.t_not ?_ | refine W.e_andV ?_ | refine W.e_orV ?_ | refine W.e_notV ?_ | refine W.w_BV ?_ | refine W.e_chain ?_
  | refine W.s_aug ?_ | refine W.s_augS ?_ | refine W.s_next ?_ | refine W.s_brk ?_ | refine W.s_cont ?_ | refine W.s_retN ?_ | refine W.s_fa ?_ | refine W.e_make ?_ | refine W.w_make ?_
  | refine W.w_I0 ?_ | refine W.w_U ?_ | refine W.w_aug ?_ | refine W.w_eqI ?_ | refine W.w_neI ?_ | refine W.w_eqS ?_ | refine W.w_neS ?_ | refine W.w_eqB ?_ | refine W.w_neB ?_
  | refine W.w_int ?_ | refine W.w_intB ?_ | refine W.w_min ?_ | refine W.w_max ?_ | refine W.w_isN ?_ | refine W.w_isI ?_ | refine W.w_isS ?_ | refine W.w_isB ?_ | refine W.w_isR ?_
  | refine W.w_notN ?_ | refine W.w_notI ?_ | refine W.w_notR ?_ | refine W.w_notS ?_ | refine W.w_eqNI ?_ | refine W.w_neNI ?_ | refine W.w_eqN ?_ | refine W.w_neN ?_
  | refine W.s_forL ?_ | refine W.s_forT ?_ | refine W.s_forS ?_ | refine W.s_forR1 ?_ | refine W.s_forR2 ?_ | refine W.s_forR3 ?_ | refine W.s_forZ ?_ | refine W.s_forE ?_
  | refine W.e_lcL ?_ | refine W.e_lcT ?_ | refine W.w_ord ?_ | refine W.e_lcR1 ?_ | refine W.e_lcR2 ?_ | refine W.e_lcZ ?_ | refine W.e_lcS ?_ | refine W.t_yes ?_ | refine W.w_gcons ?_ | refine W.w_gnil ?_ | refine W.s_par ?_ | refine W.w_par ?_ | refine W.g_sub ?_ | refine W.e_m1 ?_ | refine W.w_strR ?_ | refine W.w_rAdd ?_ | refine W.w_rSub ?_ | refine W.s_raise ?_ | refine W.s_try ?_ | refine W.e_methS ?_ | refine W.e_callS ?_)
local macro_rules | `(tactic| walk_at "w") => `(tactic| first
  | ((with_reducible refine' W.w_I ?wh ?wq); (case wh => walk_at "c"))
  | ((with_reducible refine' W.w_ixL (n := 0) ?wh ?we ?wq); (case wh => walk_at "f"); (case we => walk_at "a"))
  | ((with_reducible refine' W.w_ixT (n := 0) ?wh ?we ?wq); (case wh => walk_at "f"); (case we => walk_at "a"))
  | ((with_reducible refine' W.w_lenL ?wh ?wq); (case wh => walk_at "f"))
  | ((with_reducible refine' W.w_lenT ?wh ?wq); (case wh => walk_at "f"))
  | ((with_reducible refine' W.w_lenS ?wh ?wq); (case wh => walk_at "n"))
  | ((with_reducible refine' W.w_app ?wh ?we ?wq); (case wh => walk_at "f"); (case we => walk_at "n"))
  | ((with_reducible refine' W.w_meth ?wh ?we ?wq); (case wh => walk_at "f"); (case we => first | assumption | rfl))
  | ((with_reducible refine' W.w_ixLTl ?wh ?we ?wq); (case wh => walk_at "f"); (case we => walk_at "a"))
  | ((with_reducible refine' W.w_ixLTt ?wh ?we ?wq); (case wh => walk_at "f"); (case we => walk_at "a"))
  | ((with_reducible refine' W.w_addS ?wh ?wq); (case wh => walk_at "n"))
  | ((with_reducible refine' W.w_set ?wh ?we ?wq); (case wh => walk_at "f"); (case we => walk_at "a"))
  | ((with_reducible refine' W.w_tup ?wh ?we ?wq); (case wh => walk_at "f"); (case we => first | assumption | rfl))
  | ((with_reducible refine' W.w_slS ?wh ?wq); (case wh => walk_at "n"))
  | ((with_reducible refine' W.w_rApp ?wh ?we ?wq); (case wh => walk_at "f"); (case we => walk_at "n"))
  | ((with_reducible refine' W.w_newL ?wh ?wq); (case wh => walk_at "n"))
  | ((with_reducible refine' W.w_newT ?wh ?wq); (case wh => walk_at "n"))
  | ((with_reducible refine' W.w_listL ?wh ?wq); (case wh => walk_at "f"))
  | ((with_reducible refine' W.w_tupL ?wh ?wq); (case wh => walk_at "f"))
  | ((with_reducible refine' W.w_slL ?wh ?wq); (case wh => walk_at "f"))
  | ((with_reducible refine' W.w_cat ?wh ?wf ?we ?wq); (case wh => walk_at "f"); (case wf => walk_at "f"); (case we => walk_at "n"))
  | ((with_reducible refine' W.w_catT ?wh ?wf ?wx ?wy ?we ?wq); (case wh => walk_at "f"); (case wf => walk_at "f"); (case wx => exact List.cons_ne_nil _ _); (case wy => exact List.cons_ne_nil _ _); (case we => walk_at "n"))
  | ((with_reducible refine' W.w_ext ?wh ?wf ?we ?wq); (case wh => walk_at "f"); (case wf => walk_at "f"); (case we => walk_at "n"))
  | ((with_reducible refine' W.w_recv ?wh ?wq); (case wh => walk_at "f"))
  | ((with_reducible refine' W.w_isi1 ?wh ?we ?wq); (case wh => assumption); (case we => decide +kernel))
  | ((with_reducible refine' W.w_isi0 ?wh ?we ?wq); (case wh => assumption); (case we => decide +kernel))
  | ((with_reducible refine' W.w_isiT10 ?wh ?wf ?we ?wg ?wq); (case wh => assumption); (case wf => walk_at "f"); (case we => decide +kernel); (case wg => decide +kernel))
  | ((with_reducible refine' W.w_isiT01 ?wh ?wf ?we ?wg ?wq); (case wh => assumption); (case wf => walk_at "f"); (case we => decide +kernel); (case wg => decide +kernel))
  | ((with_reducible refine' W.w_isiT00 ?wh ?wf ?we ?wg ?wq); (case wh => assumption); (case wf => walk_at "f"); (case we => decide +kernel); (case wg => decide +kernel))
  | ((with_reducible refine' W.w_ins ?wh ?we ?wf ?wq); (case wh => walk_at "f"); (case we => walk_at "n"); (case wf => walk_at "c"))
  | ((with_reducible refine' W.w_unl ?wh ?we ?wq); (case wh => walk_at "f"); (case we => first | assumption | rfl))
  | ((with_reducible refine' W.ite_T ?_))
  | ((with_reducible refine' W.ite_F ?_))
  | ((with_reducible refine' W.ite_nT ?_))
  | ((with_reducible refine' W.ite_nF ?_))
  | ((with_reducible refine' W.ite_self ?_))
  | ((with_reducible refine' W.ite_nself ?_))
  | ((with_reducible refine' W.ite_tf ?_))
  | ((with_reducible refine' W.ite_ft ?_))
  | ((with_reducible refine' W.ite_ntf ?_))
  | ((with_reducible refine' W.ite_nft ?_))
  | ((with_reducible refine' And.intro ?wl ?wq); (case wl => rfl)))
local macro_rules | `(tactic| walk_at "i") => `(tactic| try (dsimp only [L2.cxOf, L2.wipe, List.map, List.set]))
local macro_rules | `(tactic| walk_at "s") => `(tactic| first | walk_at "v" | walk_at "e" | walk_at "w")
local macro_rules | `(tactic| walk_at "r") => `(tactic| repeat walk_at "s")

namespace My
open PySem L2 W
variable {P : Program} {w : World} {K : PySem.W.Frag} {mg : Str → Option Value} {base : Heap} {A : Adr}
def sp_ldeed : Sp := fun vs H Q _ => ∃ (a c : Addr) (ns : List Int) (n : Nat), vs = [.ref a, .int (n : Int)] ∧ Drw a c ns H ∧ n ≤ 1000 ∧ ∀ (v : V) (d : Dd) H', vD H' d v → sml d → Keep [a] H H' → Drw a c ns H' → Q v H'
theorem ab_ : Str.ofString "ab" = tx [97, 98] := by decide +kernel
theorem sml_back {n : Nat} (h : n ≤ 5000) : sml (.back n) := ⟨show n < 2 ^ 70 by omega, by have := wn_len 1 n (by omega); show (1 :: wn n).length ≤ 40; rw [List.length_cons]; omega, trivial⟩
theorem sml_chg {m t : List Nat} {n : Nat} (hm : ∀ c ∈ m, okch c = true) (hm2 : m.length ≤ 3) (ht : ∀ c ∈ t, okch c = true) (ht2 : t.length ≤ 3) (hn : n ≤ 5000) : sml (.chg m [] none n t) := by
  refine ⟨⟨⟨hm, by omega⟩, by simp, by simp, by simp, show n < 2 ^ 70 by omega, ⟨ht, by omega⟩⟩, ?_, rfl⟩
  have l1 : ∀ s : List Nat, (∀ c ∈ s, okch c = true) → s.length ≤ 3 → (ws s).length ≤ 4 := fun s hs hl => by
    have h2 := flat_le (xs := s.map wn) (n := 1) (fun x hx => by
      obtain ⟨c, hc, rfl⟩ := List.mem_map.mp hx
      exact wn_len 0 c (Nat.lt_trans (okch_lt (hs c hc)) (by decide)))
    have h3 := wn_len 0 s.length (by omega)
    unfold ws wl
    rw [List.length_append]
    rw [List.length_map] at h2 ⊢
    omega
  have a1 := l1 m hm hm2
  have a2 := l1 t ht ht2
  have a3 := wn_len 1 n (by omega)
  have a4 : (wl (([] : List (Nat × Nat)).map wm)).length ≤ 1 := by
    have := wn_len 0 0 (by decide)
    simp [wl]; exact this
  have a5 : (wd (.chg m [] none n t)).length = (ws m).length + (wl (([] : List (Nat × Nat)).map wm)).length + 1 + (wn n).length + (ws t).length + 1 := by simp [wd, wbh]; omega
  omega
theorem ok__law_deed (e : Env K mg A) : FnOk P w K mg base CX0 2 A.f__law_deed A.d__law_deed ["state", "count"] sp_ldeed := by
  have G__law_next := ok__law_next (P := P) (w := w) (base := base) e
  refine e.F__law_deed.ok sc__law_deed (fun vs H Q E h => ?_) (fun cdv AA outer s H vs Q E hr h => ?_)
  · obtain ⟨a, c, ns, n, rfl, _⟩ := h
    rfl
  · obtain ⟨a, c, ns, n, rfl, hD, hn, q⟩ := h
    refine ⟨_, (pss_cons (ps_if (PW.pt (pw_and (pt_cmpR op_gt (pv 1) pe_int (nomark _)) (pw_and1 (pt_cmpR op_eq (pe_call G__law_next (hr.mono (by omega)) (by rfl) e.m__law_next e.k__law_next e.b__law_next .nil pass0 (pa_cons (pv 0) (pa_cons pe_int pa_nil))) pe_int (nomark _))))) (pss_one (ps_ret (pe_tup (pa_cons pe_str (pa_cons (pe_op op_add pe_int (pe_call G__law_next (hr.mono (by omega)) (by rfl) e.m__law_next e.k__law_next e.b__law_next .nil pass0 (pa_cons (pv 0) (pa_cons (pe_op op_add (pv 1) pe_int) pa_nil)))) pa_nil))))) pss_nil)
    (pss_one (ps_ret (pe_tup (pa_cons pe_str (pa_cons (pe_op op_addS pe_str (pe_callTy call_str_int (by rfl) e.n_str (by decide +kernel) (pa_cons (pe_call G__law_next (hr.mono (by omega)) (by rfl) e.m__law_next e.k__law_next e.b__law_next .nil pass0 (pa_cons (pv 0) (pa_cons pe_int pa_nil))) pa_nil))) (pa_cons (pe_tup pa_nil) (pa_cons pe_non (pa_cons (pe_op op_add pe_int (pe_call G__law_next (hr.mono (by omega)) (by rfl) e.m__law_next e.k__law_next e.b__law_next .nil pass0 (pa_cons (pv 0) (pa_cons pe_int pa_nil)))) (pa_cons (pe_slice sl_str pe_str po_none (po_some (pe_call G__law_next (hr.mono (by omega)) (by rfl) e.m__law_next e.k__law_next e.b__law_next .nil pass0 (pa_cons (pv 0) (pa_cons pe_int pa_nil))))) pa_nil)))))))))), ?_⟩
    refine enter (st__law_deed _ _) ?_
    walk_at "i"
    have bk : ∀ H1, Keep [a] H H1 → Drw a c ns H1 → ∀ (x : Nat) t H2, x ≤ 5000 → Keep [] H1 H2 → H2 t = some (.tup [.str "back", .int (x : Int)]) → Q (.ref t) H2 := fun H1 k1 D1 x t H2 hx k2 ht => q _ (.back x) H2 ⟨t, rfl, ht⟩ (sml_back hx) (k1.trans k2.any) (D1.more k2)
    have cont : ∀ H1, Keep [a] H H1 → Drw a c ns H1 → ∀ (m t : List Nat) (x : Nat) tr td H2 H3, (∀ c ∈ m, okch c = true) → m.length ≤ 3 → (∀ c ∈ t, okch c = true) → t.length ≤ 3 → x ≤ 5000 → Keep [a] H1 H2 → Drw a c ns H2 → H2 tr = some (.tup []) → Keep [] H2 H3 → H3 td = some (.tup [.str "change", .str (tx m), .ref tr, .non, .int (x : Int), .str (tx t)]) → Q (.ref td) H3 :=
      fun H1 k1 D1 m t x tr td H2 H3 hm hm2 ht ht2 hx k2 D2 htr k3 htd => q _ (.chg m [] none x t) H3 ⟨td, tr, [], .non, rfl, htd, k3.get htr (by simp), .nil, rfl⟩ (sml_chg hm hm2 ht ht2 hx) (k1.trans (k2.trans k3.any)) (D2.more k3)
    walk_at "r"
    refine ite_dec (fun h0 => ?_) (fun h0 => ?_)
    · walk_at "r"
      refine ⟨a, c, ns, 3, rfl, hD, by decide, by decide, fun v0 H1 _ _ k1 D1 => ?_⟩
      walk_at "r"
      refine ite_dec (fun h1 => ?_) (fun h1 => ?_)
      · walk_at "r"
        refine ⟨a, c, ns, _, rfl, D1, by omega, by omega, fun y H2 y0 y1 k2 D2 => ?_⟩
        obtain ⟨x, rfl⟩ := Int.eq_ofNat_of_zero_le y0
        walk_at "r"
        rw [show (1 : Int) + (x : Int) = ((1 + x : Nat) : Int) by omega]
        intro t H3 nt k3 ht
        walk_at "r"
        exact bk H2 (k1.trans k2) D2 (1 + x) t H3 (by omega) k3 ht
      · walk_at "r"
        refine ⟨a, c, ns, 2, rfl, D1, by decide, by decide, fun y H2 y0 y1 k2 D2 => ?_⟩
        walk_at "r"
        have hs : ∃ m : List Nat, (Str.ofString (toString y)) = tx m ∧ m.length = 1 ∧ (∀ c ∈ m, okch c = true) ∧ y.natAbs.log2 < 1920 := by
          have : y = 0 ∨ y = 1 := by omega
          rcases this with rfl | rfl
          · exact ⟨[48], by decide +kernel, rfl, by decide, by decide +kernel⟩
          · exact ⟨[49], by decide +kernel, rfl, by decide, by decide +kernel⟩
        obtain ⟨m, hm, hm1, hmo, hlog⟩ := hs
        refine ⟨y, rfl, hlog, ?_⟩
        rw [hm, show Str.ofString "m" = tx [109] from by decide +kernel]
        have hz : (tx [109]).length + (tx m).length ≤ PySem.sizeLine := by rw [tx_len, tx_len, hm1]; decide
        refine w_addS hz ?_
        rw [tx_app]
        walk_at "r"
        intro tr H3 ntr k3 htr
        walk_at "r"
        refine ⟨a, c, ns, 200, rfl, D2.more k3, by decide, by decide, fun z H4 z0 z1 k4 D4 => ?_⟩
        obtain ⟨x, rfl⟩ := Int.eq_ofNat_of_zero_le z0
        have htr4 := k4.2 _ _ htr
        walk_at "r"
        refine ⟨a, c, ns, 3, rfl, D4, by decide, by decide, fun u H5 u0 u1 k5 D5 => ?_⟩
        obtain ⟨e', rfl⟩ := Int.eq_ofNat_of_zero_le u0
        have htr5 := k5.2 _ _ htr4
        rw [ab_]
        have hz2 : (tx [97, 98]).length ≤ PySem.sizeLine := by rw [tx_len]; decide
        walk_at "r"
        rw [cut_tx0, show (1 : Int) + (x : Int) = ((1 + x : Nat) : Int) by omega]
        intro td H6 ntd k6 htd
        walk_at "r"
        refine cont H1 k1 D1 ([109] ++ m) ([97, 98].take e') (1 + x) tr td H5 H6 ?_ (by rw [List.length_append, hm1]; decide) ?_ (by rw [List.length_take]; simp; omega) (by omega) (k2.trans (k3.any.trans (k4.trans k5))) D5 htr5 k6 htd
        · intro c hc
          rcases List.mem_append.mp hc with hc | hc
          · rw [List.mem_singleton] at hc; rw [hc]; rfl
          · exact hmo c hc
        · intro c hc
          have hc := List.mem_of_mem_take hc
          simp only [List.mem_cons, List.not_mem_nil, or_false] at hc
          rcases hc with rfl | rfl <;> rfl
    · walk_at "r"
      have k0 : Keep [a] H H := Keep.refl
      refine ⟨a, c, ns, 2, rfl, hD, by decide, by decide, fun y H2 y0 y1 k2 D2 => ?_⟩
      walk_at "r"
      have hs : ∃ m : List Nat, (Str.ofString (toString y)) = tx m ∧ m.length = 1 ∧ (∀ c ∈ m, okch c = true) ∧ y.natAbs.log2 < 1920 := by
        have : y = 0 ∨ y = 1 := by omega
        rcases this with rfl | rfl
        · exact ⟨[48], by decide +kernel, rfl, by decide, by decide +kernel⟩
        · exact ⟨[49], by decide +kernel, rfl, by decide, by decide +kernel⟩
      obtain ⟨m, hm, hm1, hmo, hlog⟩ := hs
      refine ⟨y, rfl, hlog, ?_⟩
      rw [hm, show Str.ofString "m" = tx [109] from by decide +kernel]
      have hz : (tx [109]).length + (tx m).length ≤ PySem.sizeLine := by rw [tx_len, tx_len, hm1]; decide
      refine w_addS hz ?_
      rw [tx_app]
      walk_at "r"
      intro tr H3 ntr k3 htr
      walk_at "r"
      refine ⟨a, c, ns, 200, rfl, D2.more k3, by decide, by decide, fun z H4 z0 z1 k4 D4 => ?_⟩
      obtain ⟨x, rfl⟩ := Int.eq_ofNat_of_zero_le z0
      have htr4 := k4.2 _ _ htr
      walk_at "r"
      refine ⟨a, c, ns, 3, rfl, D4, by decide, by decide, fun u H5 u0 u1 k5 D5 => ?_⟩
      obtain ⟨e', rfl⟩ := Int.eq_ofNat_of_zero_le u0
      have htr5 := k5.2 _ _ htr4
      rw [ab_]
      have hz2 : (tx [97, 98]).length ≤ PySem.sizeLine := by rw [tx_len]; decide
      walk_at "r"
      rw [cut_tx0, show (1 : Int) + (x : Int) = ((1 + x : Nat) : Int) by omega]
      intro td H6 ntd k6 htd
      walk_at "r"
      refine cont H k0 hD ([109] ++ m) ([97, 98].take e') (1 + x) tr td H5 H6 ?_ (by rw [List.length_append, hm1]; decide) ?_ (by rw [List.length_take]; simp; omega) (by omega) (k2.trans (k3.any.trans (k4.trans k5))) D5 htr5 k6 htd
      · intro c hc
        rcases List.mem_append.mp hc with hc | hc
        · rw [List.mem_singleton] at hc; rw [hc]; rfl
        · exact hmo c hc
      · intro c hc
        have hc := List.mem_of_mem_take hc
        simp only [List.mem_cons, List.not_mem_nil, or_false] at hc
        rcases hc with rfl | rfl <;> rfl
/-- a group of triples drawn, the counts going on -/
def kV (ks : List Nat) : List V := ks.map fun n : Nat => V.int (n : Int)
def Adv (ks : List Nat) (ts : List Tri) (ks' : List Nat) : Prop := ∀ rows : Rws, lens rows = ks → ∃ r, nxs rows ts = some r ∧ lens r = ks'
def sp_group : Sp := fun vs H Q _ => ∃ (a c : Addr) (ns : List Int) (cn : Addr) (ks : List Nat) (M : Nat), vs = [.ref a, .ref cn] ∧ Drw a c ns H ∧ H cn = some (.lst (kV ks)) ∧ ks.length = 8 ∧ (∀ n ∈ ks, n ≤ M) ∧ M ≤ 500 ∧ cn ≠ a ∧ cn ≠ c ∧
  ∀ g us ts ks' H', H g = none → Keep [a, cn] H H' → Drw a c ns H' → H' cn = some (.lst (kV ks')) → H' g = some (.lst us) → vTs H' ts us → (∀ t ∈ ts, smt t) → ts.length ≤ 3 → ks'.length = 8 → (∀ n ∈ ks', n ≤ M + 3) → Adv ks ts ks' → Q (.ref g) H'
theorem Adv.step {ks ts ks'} {d : Dd} {r k : Nat} (h : Adv ks ts ks') (hr : r < 8) (hk : ks'[r]? = some k) : Adv ks (ts ++ [⟨r, k + 1, d⟩]) (ks'.set r (k + 1)) := fun rows hl => by
  obtain ⟨z, e1, e2⟩ := h rows hl
  have hzl : r < z.length := by
    have := (List.getElem?_eq_some_iff.mp hk).1
    rw [← e2] at this
    unfold lens at this
    rw [List.length_map] at this
    exact this
  have hzk : (z.getD r []).length = k := by
    rw [← e2] at hk
    unfold lens at hk
    rw [List.getElem?_map, List.getElem?_eq_getElem hzl] at hk
    rw [List.getD_eq_getElem?_getD, List.getElem?_eq_getElem hzl]
    simpa using hk
  refine ⟨_, by rw [nxs_snoc, e1]; exact nx1_yes ⟨hr, by rw [hzk]⟩, ?_⟩
  unfold lens
  rw [List.map_set]
  show (lens z).set r (z.getD r [] ++ [d]).length = _
  rw [e2, List.length_append, hzk, List.length_singleton]
theorem ok__law_group (e : Env K mg A) : FnOk P w K mg base CX0 3 A.f__law_group A.d__law_group ["state", "counts"] sp_group := by
  have G__law_next := ok__law_next (P := P) (w := w) (base := base) e
  have G__law_deed := ok__law_deed (P := P) (w := w) (base := base) e
  refine e.F__law_group.ok sc__law_group (fun vs H Q E h => ?_) (fun cdv AA outer s H vs Q E hr h => ?_)
  · obtain ⟨a, c, ns, cn, ks, M, rfl, _⟩ := h
    rfl
  · obtain ⟨a, c, ns, cn, ks, M, rfl, hD, hcn, h8, hM, hM5, nca, ncc, q⟩ := h
    refine ⟨_, (pss_cons (ps_set (i := 2) sc__law_group.nd rfl (Or.inl rfl) (pe_lst pa_nil))
    (pss_cons (ps_for PassesOwn.never rfl (pi_range1 rfl e.n_range (pa_cons (pe_op op_add pe_int (pe_call G__law_next (hr.mono (by omega)) (by rfl) e.m__law_next e.k__law_next e.b__law_next .nil pass0 (pa_cons (pv 0) (pa_cons pe_int pa_nil)))) pa_nil)) (pg_name (i := 3) sc__law_group.nd rfl (Or.inl rfl)) (pss_cons (ps_set (i := 4) sc__law_group.nd rfl (Or.inl rfl) (pe_call G__law_next (hr.mono (by omega)) (by rfl) e.m__law_next e.k__law_next e.b__law_next .nil pass0 (pa_cons (pv 0) (pa_cons pe_int pa_nil))))
    (pss_cons (ps_augS (pv 1) (pv 4) (get_listK (K := K)) pe_int ip_add set_list)
    (pss_one (ps_expr (pe_bmK (K := K) PySem.F.plainAttrs_list PySem.F.slot_list_append PySem.F.type_list_append mt_append (pv 2) (pa_cons (pe_tup (pa_cons (pv 4) (pa_cons (pe_ix (ix_listK (K := K)) (pv 1) (pv 4) (fun _ _ => rfl)) (pa_cons (pe_call G__law_deed (hr.mono (by omega)) (by rfl) e.m__law_deed e.k__law_deed e.b__law_deed .nil pass0 (pa_cons (pv 0) (pa_cons (pe_op op_sub (pe_ix (ix_listK (K := K)) (pv 1) (pv 4) (fun _ _ => rfl)) pe_int) pa_nil))) pa_nil)))) pa_nil)))))))
    (pss_one (ps_ret (pv 2))))), ?_⟩
    refine enter (st__law_group _ _) ?_
    walk_at "i"
    walk_at "r"
    intro g H1 ng k1 hg
    walk_at "r"
    refine ⟨a, c, ns, 3, rfl, hD.more k1, by decide, by decide, fun x H2 x0 x1 k2 D2 => ?_⟩
    have nga : g ≠ a ∧ g ≠ c := hD.fre ng
    have ngc : g ≠ cn := Ne.symm (ne_of_none hcn ng)
    have hg2 := k2.get hg (by simp [nga.1])
    have hcn2 := (k1.any.trans k2).get hcn (by simp [nca])
    have k12 : Keep [a] H H2 := k1.any.trans k2
    walk_at "r"
    refine forR1 (by omega) (by omega) (fun i σ H' => ∃ (v3 v4 : Option V) (us : List V) (ts : List Tri) (ks' : List Nat), σ = [some (.ref a), some (.ref cn), some (.ref g), v3, v4] ∧ Keep [a, cn] H H' ∧ Drw a c ns H' ∧ H' cn = some (.lst (kV ks')) ∧ H' g = some (.lst us) ∧ vTs H' ts us ∧ (∀ t ∈ ts, smt t) ∧ ts.length = i ∧ ks'.length = 8 ∧ (∀ n ∈ ks', n ≤ M + i) ∧ Adv ks ts ks')
      ⟨_, _, [], [], ks, rfl, k12.mono (by simp), D2, hcn2, hg2, .nil, by simp, rfl, h8, by simpa using hM, fun rows hl => ⟨rows, rfl, hl⟩⟩ ?_ ?_
    · rintro i σ H3 hi ⟨v3, v4, us, ts, ks', rfl, k3, D3, hcn3, hg3, hT, hsm, htl, hk8, hkM, hadv⟩
      have hul : us.length = ts.length := Paired.length hT
      walk_at "r"
      refine ⟨a, c, ns, 8, rfl, D3, by decide, by decide, fun y H4 y0 y1 k4 D4 => ?_⟩
      obtain ⟨r, rfl⟩ := Int.eq_ofNat_of_zero_le y0
      have hr8 : r < 8 := by omega
      obtain ⟨kk, hkk⟩ : ∃ kk, ks'[r]? = some kk := ⟨_, List.getElem?_eq_getElem (by omega)⟩
      have hkb := hkM kk (List.mem_of_getElem? hkk)
      have hat : atI (kV ks') (r : Int) = some (.int (kk : Int)) := atI_nat (by unfold kV; rw [List.getElem?_map, hkk]; rfl)
      have hix : ixN (kV ks').length (r : Int) = some r := Evl.ixN_nat (by unfold kV; rw [List.length_map]; omega)
      have hcn4 := k4.get hcn3 (by simp [nca])
      have hg4 := k4.get hg3 (by simp [nga.1])
      have hT4 := vTs.keep hT k4
      clear hcn3 hg3 hT hcn2 hg2 hg
      walk_at "r"
      intro H5 k5 h5
      have hcn5 : H5 cn = some (.lst (kV (ks'.set r (kk + 1)))) := by
        rw [h5]
        unfold kV
        rw [List.map_set]; rfl
      have hg5 := k5.get hg4 (by simp [ngc])
      have D5 := D4.keep k5 (by simp [Ne.symm nca]) (by simp [Ne.symm ncc])
      have hT5 := vTs.keep hT4 k5
      have hat5 : atI (kV (ks'.set r (kk + 1))) (r : Int) = some (.int ((kk : Int) + 1)) := atI_nat (by
        unfold kV
        rw [List.getElem?_map, List.getElem?_set_self (by omega)]; rfl)
      clear h5 hcn4 hg4 hT4 hat
      walk_at "r"
      rw [show (kk : Int) + 1 - 1 = (kk : Int) by omega]
      refine ⟨a, c, ns, kk, rfl, D5, by omega, fun dv d H6 hd hsd k6 D6 => ?_⟩
      have hcn6 := k6.get hcn5 (by simp [nca])
      have hg6 := k6.get hg5 (by simp [nga.1])
      have hT6 := vTs.keep hT5 k6
      clear hcn5 hg5 hT5
      walk_at "r"
      intro t H7 nt k7 ht
      have hg7 := k7.get hg6 (by simp)
      walk_at "r"
      intro H8 k8 h8'
      have hT8 := vTs.keep (vTs.keep hT6 k7) k8
      have hcn8 := k8.get (k7.get hcn6 (by simp)) (by simp [Ne.symm ngc])
      have kA : Keep [a, cn] H3 H7 := (k4.mono (by simp)).trans ((k5.mono (by simp)).trans ((k6.mono (by simp)).trans k7.any))
      refine ⟨_, _, us ++ [.ref t], ts ++ [⟨r, kk + 1, d⟩], ks'.set r (kk + 1), rfl, (k3.trans kA).mut ng k8, (D6.more k7).mut k8 nga, hcn8, h8', Paired.snoc hT8 ⟨t, dv, rfl, k8.2 _ _ ht, vD.keep (vD.keep hd k7) k8⟩, ?_, by rw [List.length_append, htl]; rfl, by rw [List.length_set]; exact hk8, ?_, hadv.step hr8 hkk⟩
      · intro z hz
        rcases List.mem_append.mp hz with hz | hz
        · exact hsm z hz
        · rw [List.mem_singleton] at hz; rw [hz]; exact ⟨hr8, by show kk + 1 ≤ 1000; omega, hsd⟩
      · intro n hn
        rcases List.mem_or_eq_of_mem_set hn with hn | hn
        · have := hkM n hn; omega
        · omega
    · rintro σ H3 ⟨v3, v4, us, ts, ks', rfl, k3, D3, hcn3, hg3, hT, hsm, htl, hk8, hkM, hadv⟩
      walk_at "r"
      exact q g us ts ks' H3 ng k3 D3 hcn3 hg3 hT hsm (by omega) hk8 (fun n hn => by have := hkM n hn; omega) hadv
end My

end
section
set_option maxHeartbeats 4000000
local macro_rules | `(tactic| walk_at "k") => `(tactic| first
  | assumption
  | exact W.Keep.trans (by assumption) (by assumption)
  | exact And.intro (by grind [W.Keep, W.Kp]) (by grind [W.Keep, W.Kt])
  | grind [W.Keep, W.Kp])
local macro_rules | `(tactic| walk_at "f") => `(tactic| first
  | assumption
  | exact L2.SqL.of (by assumption)
  | exact L2.SqT.of (by assumption)
  | exact L2.SqL.of L2.upd_same
  | exact L2.SqT.of L2.upd_same
  | exact L2.upd_same
  | exact W.carryL (by assumption) (by assumption)
  | exact W.carryL (by assumption) (by walk_at "k")
  | exact W.carryT (by assumption) (by walk_at "k")
  | exact W.carry (by assumption) (by grind [W.Keep, W.Kp])
  | exact L2.SqL.of (W.carry (by assumption) (by grind [W.Keep, W.Kp]))
  | exact L2.SqT.of (W.carry (by assumption) (by grind [W.Keep, W.Kp])))
local macro_rules | `(tactic| walk_at "a") => `(tactic| first
  | assumption
  | rfl)
local macro_rules | `(tactic| walk_at "n") => `(tactic| first
  | assumption
  | exact Nat.zero_le _
  | decide
  | (simp only [List.length_cons, List.length_nil]; decide)
  | omega
  | (simp only [PySem.sizeLine_eq]; omega)
  | (simp only [List.length_map, List.length_append, List.length_cons, List.length_nil, PySem.sizeLine_eq]; omega)
  | (simp only [List.length_map, List.length_append, List.length_cons, List.length_nil, List.length_take, List.length_drop, PySem.sizeLine_eq]; omega)
  | (simp only [List.length_map, List.length_append, List.length_cons, List.length_nil, PySem.sizeLine_eq] at *; omega))
local macro_rules | `(tactic| walk_at "c") => `(tactic| first
  | assumption
  | decide
  | exact And.intro (by decide) (by decide)
  | exact Or.inr (And.intro (by decide) (by decide))
  | exact Or.inl (And.intro (by decide) (by decide))
  | exact And.intro (by decide) (And.intro (by decide) (by decide))
  | exact (show (0 : Int) < _ by decide)
  | exact And.intro (by omega) (by omega)
  | exact Or.inl (And.intro (by omega) (by omega))
  | exact Or.inr (And.intro (by omega) (by omega))
  | exact (show (0 : Int) < _ by omega))
local macro_rules | `(tactic| walk_at "v") => `(tactic| with_reducible first
  | refine W.v0 ?_ | refine W.v1 ?_ | refine W.v2 ?_ | refine W.v3 ?_ | refine W.v4 ?_ | refine W.v5 ?_ | refine W.v6 ?_ | refine W.v7 ?_ | refine W.v8 ?_
  | refine W.v9 ?_ | refine W.v10 ?_ | refine W.v11 ?_ | refine W.v12 ?_ | refine W.v13 ?_ | refine W.v14 ?_ | refine W.v15 ?_ | refine W.v16 ?_ | refine W.v17 ?_
  | refine W.g0 ?_ | refine W.g1 ?_ | refine W.g2 ?_ | refine W.g3 ?_ | refine W.g4 ?_ | refine W.g5 ?_ | refine W.g6 ?_ | refine W.g7 ?_ | refine W.g8 ?_
  | refine W.g9 ?_ | refine W.g10 ?_ | refine W.g11 ?_ | refine W.g12 ?_ | refine W.g13 ?_ | refine W.g14 ?_ | refine W.g15 ?_)
local macro_rules | `(tactic| walk_at "e") => `(tactic| with_reducible first
  | refine W.e_c ?_ | refine W.e_op ?_ | refine W.s_seq ?_ | refine W.s_asg ?_ | refine W.e_CB ?_ | refine W.a_cons ?_ | refine W.a_nil ?_ | refine W.e_call ?_
  | refine W.t_test ?_ | refine W.w_B ?_ | refine W.s_if ?_ | refine W.s_ret ?_ | refine W.s_drop ?_ | refine W.e_un ?_ | refine W.e_fld ?_ | refine W.s_fld ?_
  | refine W.e_meth ?_ | refine W.e_if ?_ | refine W.e_lst ?_ | refine W.e_tup ?_ | refine W.e_sl ?_ | refine W.o_none ?_ | refine W.o_some ?_ | refine W.w_part ?_
  | refine W.e_bm ?_ | refine W.e_bm0 ?_ | refine W.t_B ?_ | refine W.t_and ?_ | refine W.t_or ?_ | refine W.t_not ?_ | refine W.e_andV ?_ | refine W.e_orV ?_ | refine W.e_notV ?_ | refine W.w_BV ?_ | refine W.e_chain ?_
  | refine W.s_aug ?_ | refine W.s_augS ?_ | refine W.s_next ?_ | refine W.s_brk ?_ | refine W.s_cont ?_ | refine W.s_retN ?_ | refine W.s_fa ?_ | refine W.e_make ?_ | refine W.w_make ?_
  | refine W.w_I0 ?_ | refine W.w_U ?_ | refine W.w_aug ?_ | refine W.w_eqI ?_ | refine W.w_neI ?_ | refine W.w_eqS ?_ | refine W.w_neS ?_ | refine W.w_eqB ?_ | refine W.w_neB ?_
  | refine W.w_int ?_ | refine W.w_intB ?_ | refine W.w_min ?_ | refine W.w_max ?_ | refine W.w_isN ?_ | refine W.w_isI ?_ | refine W.w_isS ?_ | refine W.w_isB ?_ | refine W.w_isR ?_
  | refine W.w_notN ?_ | refine W.w_notI ?_ | refine W.w_notR ?_ | refine W.w_notS ?_ | refine W.w_eqNI ?_ | refine W.w_neNI ?_ | refine W.w_eqN ?_ | refine W.w_neN ?_
  | refine W.s_forL ?_ | refine W.s_forT ?_ | refine W.s_forS ?_ | refine W.s_forR1 ?_ | refine W.s_forR2 ?_ | refine W.s_forR3 ?_ | refine W.s_forZ ?_ | refine W.s_forE ?_
  | refine W.e_lcL ?_ | refine W.e_lcT ?_ | refine W.w_ord ?_ | refine W.e_lcR1 ?_ | refine W.e_lcR2 ?_ | refine W.e_lcZ ?_ | refine W.e_lcS ?_ | refine W.t_yes ?_ | refine W.w_gcons ?_ | refine W.w_gnil ?_ | refine W.s_par ?_ | refine W.w_par ?_ | refine W.g_sub ?_ | refine W.e_m1 ?_ | refine W.w_strR ?_ | refine W.w_rAdd ?_ | refine W.w_rSub ?_ | refine W.s_raise ?_ | refine W.s_try ?_ | refine W.e_methS ?_ | refine W.e_callS ?_)
local macro_rules | `(tactic| walk_at "w") => `(tactic| first
  | ((with_reducible refine' W.w_I ?wh ?wq); (case wh => walk_at "c"))
  | ((with_reducible refine' W.w_ixL (n := 0) ?wh ?we ?wq); (case wh => walk_at "f"); (case we => walk_at "a"))
  | ((with_reducible refine' W.w_ixT (n := 0) ?wh ?we ?wq); (case wh => walk_at "f"); (case we => walk_at "a"))
  | ((with_reducible refine' W.w_lenL ?wh ?wq); (case wh => walk_at "f"))
  | ((with_reducible refine' W.w_lenT ?wh ?wq); (case wh => walk_at "f"))
  | ((with_reducible refine' W.w_lenS ?wh ?wq); (case wh => walk_at "n"))
  | ((with_reducible refine' W.w_app ?wh ?we ?wq); (case wh => walk_at "f"); (case we => walk_at "n"))
  | ((with_reducible refine' W.w_meth ?wh ?we ?wq); (case wh => walk_at "f"); (case we => first | assumption | rfl))
  | ((with_reducible refine' W.w_ixLTl ?wh ?we ?wq); (case wh => walk_at "f"); (case we => walk_at "a"))
  | ((with_reducible refine' W.w_ixLTt ?wh ?we ?wq); (case wh => walk_at "f"); (case we => walk_at "a"))
  | ((with_reducible refine' W.w_addS ?wh ?wq); (case wh => walk_at "n"))
  | ((with_reducible refine' W.w_set ?wh ?we ?wq); (case wh => walk_at "f"); (case we => walk_at "a"))
  | ((with_reducible refine' W.w_tup ?wh ?we ?wq); (case wh => walk_at "f"); (case we => first | assumption | rfl))
  | ((with_reducible refine' W.w_slS ?wh ?wq); (case wh => walk_at "n"))
  | ((with_reducible refine' W.w_rApp ?wh ?we ?wq); (case wh => walk_at "f"); (case we => walk_at "n"))
  | ((with_reducible refine' W.w_newL ?wh ?wq); (case wh => walk_at "n"))
  | ((with_reducible refine' W.w_newT ?wh ?wq); (case wh => walk_at "n"))
  | ((with_reducible refine' W.w_listL ?wh ?wq); (case wh => walk_at "f"))
  | ((with_reducible refine' W.w_tupL ?wh ?wq); (case wh => walk_at "f"))
  | ((with_reducible refine' W.w_slL ?wh ?wq); (case wh => walk_at "f"))
  | ((with_reducible refine' W.w_cat ?wh ?wf ?we ?wq); (case wh => walk_at "f"); (case wf => walk_at "f"); (case we => walk_at "n"))
  | ((with_reducible refine' W.w_catT ?wh ?wf ?wx ?wy ?we ?wq); (case wh => walk_at "f"); (case wf => walk_at "f"); (case wx => exact List.cons_ne_nil _ _); (case wy => exact List.cons_ne_nil _ _); (case we => walk_at "n"))
  | ((with_reducible refine' W.w_ext ?wh ?wf ?we ?wq); (case wh => walk_at "f"); (case wf => walk_at "f"); (case we => walk_at "n"))
  | ((with_reducible refine' W.w_recv ?wh ?wq); (case wh => walk_at "f"))
  | ((with_reducible refine' W.w_isi1 ?wh ?we ?wq); (case wh => assumption); (case we => decide +kernel))
  | ((with_reducible refine' W.w_isi0 ?wh ?we ?wq); (case wh => assumption); (case we => decide +kernel))
  | ((with_reducible refine' W.w_isiT10 ?wh ?wf ?we ?wg ?wq); (case wh => assumption); (case wf => walk_at "f"); (case we => decide +kernel); (case wg => decide +kernel))
  | ((with_reducible refine' W.w_isiT01 ?wh ?wf ?we ?wg ?wq); (case wh => assumption); (case wf => walk_at "f"); (case we => decide +kernel); (case wg => decide +kernel))
  | ((with_reducible refine' W.w_isiT00 ?wh ?wf ?we ?wg ?wq); (case wh => assumption); (case wf => walk_at "f"); (case we => decide +kernel); (case wg => decide +kernel))
  | ((with_reducible refine' W.w_ins ?wh ?we ?wf ?wq); (case wh => walk_at "f"); (case we => walk_at "n"); (case wf => walk_at "c"))
  | ((with_reducible refine' W.w_unl ?wh ?we ?wq); (case wh => walk_at "f"); (case we => first | assumption | rfl))
  | ((with_reducible refine' W.ite_T ?_))
  | ((with_reducible refine' W.ite_F ?_))
  | ((with_reducible refine' W.ite_nT ?_))
  | ((with_reducible refine' W.ite_nF ?_))
  | ((with_reducible refine' W.ite_self ?_))
  | ((with_reducible refine' W.ite_nself ?_))
  | ((with_reducible refine' W.ite_tf ?_))
  | ((with_reducible refine' W.ite_ft ?_))
  | ((with_reducible refine' W.ite_ntf ?_))
  | ((with_reducible refine' W.ite_nft ?_))
  | ((with_reducible refine' And.intro ?wl ?wq); (case wl => rfl)))
local macro_rules | `(tactic| walk_at "i") => `(tactic| try (dsimp only [L2.cxOf, L2.wipe, List.map, List.set]))
local macro_rules | `(tactic| walk_at "s") => `(tactic| first | walk_at "v" | walk_at "e" | walk_at "w")
local macro_rules | `(tactic| walk_at "r") => `(tactic| repeat walk_at "s")

namespace My
open PySem L2 W
variable {P : Program} {w : World} {K : PySem.W.Frag} {mg : Str → Option Value} {base : Heap} {A : Adr}
theorem wts_b {r p : Nat} (hr : r ≤ 10) (hp : p ≤ 1000) : (wts [⟨r, p, .back 1⟩]).length ≤ 40 := by
  have h1 := wn_len 1 r (by omega)
  have h2 := wn_len 1 p (by omega)
  have h3 := wn_len 0 1 (by decide)
  have e : (wts [⟨r, p, .back 1⟩]).length = (wn 1).length + ((wn r).length + ((wn p).length + (1 + (wn 1).length))) := by simp [wts, wl, wt, wd]; omega
  omega
theorem okt_b {r p : Nat} (hr : r ≤ 10) (hp : p ≤ 1000) : ∀ t ∈ ([⟨r, p, .back 1⟩] : List Tri), okt t := fun t ht => by
  rw [List.mem_singleton] at ht
  subst ht
  exact ⟨show r < 2 ^ 70 by omega, show p < 2 ^ 70 by omega, show (1 : Nat) < 2 ^ 70 by decide⟩
theorem vTs_b {H : Hp} {t dt : Addr} {r p : Nat} (ht : H t = some (.tup [.int (r : Int), .int (p : Int), .ref dt])) (hd : H dt = some (.tup [.str "back", .int 1])) : vTs H [⟨r, p, .back 1⟩] [.ref t] := Paired.cons ⟨t, .ref dt, rfl, ht, ⟨dt, rfl, hd⟩⟩ Paired.nil
theorem wts_nil : wts [] = [0] := by unfold wts wl; simp [wn_lo]
def Good8 (x : List Int) : Prop := by8 x ∧ x.length ≤ 100
def sp_strange : Sp := fun vs H Q _ => ∃ (a c : Addr) (ns : List Int) (cn : Addr) (ks : List Nat), vs = [.ref a, .ref cn] ∧ Drw a c ns H ∧ H cn = some (.lst (kV ks)) ∧ ks.length = 8 ∧ (∀ n ∈ ks, n ≤ 500) ∧ cn ≠ a ∧
  ∀ p x H', H p = none → Keep [a] H H' → Drw a c ns H' → H' p = some (.lst (x.map V.int)) → by8 x → x.length ≤ 200 → Q (.ref p) H'
theorem ok__law_strange (e : Env K mg A) : FnOk P w K mg base CX0 6 A.f__law_strange A.d__law_strange ["state", "counts"] sp_strange := by
  have G__law_next := ok__law_next (P := P) (w := w) (base := base) e
  have G_write_triples := ok_write_triples (P := P) (w := w) (base := base) e
  have G__law_record := ok__law_record (P := P) (w := w) (base := base) e
  refine e.F__law_strange.ok sc__law_strange (fun vs H Q E h => ?_) (fun cdv AA outer s H vs Q E hr h => ?_)
  · obtain ⟨a, c, ns, cn, ks, rfl, _⟩ := h
    rfl
  · obtain ⟨a, c, ns, cn, ks, rfl, hD, hcn, h8, hM, nca, q⟩ := h
    refine ⟨_, (pss_cons (ps_set (i := 2) sc__law_strange.nd rfl (Or.inl rfl) (pe_call G__law_next (hr.mono (by omega)) (by rfl) e.m__law_next e.k__law_next e.b__law_next .nil pass0 (pa_cons (pv 0) (pa_cons pe_int pa_nil))))
    (pss_cons (ps_set (i := 3) sc__law_strange.nd rfl (Or.inl rfl) (pe_tup (pa_cons pe_str (pa_cons pe_int pa_nil))))
    (pss_cons (ps_set (i := 4) sc__law_strange.nd rfl (Or.inl rfl) (pe_lst (pa_cons (pe_call G_write_triples (hr.mono (by omega)) (by rfl) e.m_write_triples e.k_write_triples e.b_write_triples .nil pass0 (pa_cons (pe_lst (pa_cons (pe_tup (pa_cons pe_int (pa_cons pe_int (pa_cons (pv 3) pa_nil)))) pa_nil)) pa_nil)) (pa_cons (pe_call G_write_triples (hr.mono (by omega)) (by rfl) e.m_write_triples e.k_write_triples e.b_write_triples .nil pass0 (pa_cons (pe_lst (pa_cons (pe_tup (pa_cons (pv 2) (pa_cons (pe_op op_add (pe_ix (ix_listK (K := K)) (pv 1) (pv 2) (fun _ _ => rfl)) pe_int) (pa_cons (pv 3) pa_nil)))) pa_nil)) pa_nil)) (pa_cons (pe_call G_write_triples (hr.mono (by omega)) (by rfl) e.m_write_triples e.k_write_triples e.b_write_triples .nil pass0 (pa_cons (pe_lst (pa_cons (pe_tup (pa_cons (pv 2) (pa_cons pe_int (pa_cons (pv 3) pa_nil)))) pa_nil)) pa_nil)) pa_nil)))))
    (pss_cons (ps_set (i := 4) sc__law_strange.nd rfl (Or.inl rfl) (pe_op op_cat (pv 4) (pe_lst (pa_cons (pe_op op_cat (pe_call G_write_triples (hr.mono (by omega)) (by rfl) e.m_write_triples e.k_write_triples e.b_write_triples .nil pass0 (pa_cons (pe_lst (pa_cons (pe_tup (pa_cons (pv 2) (pa_cons (pe_op op_add (pe_ix (ix_listK (K := K)) (pv 1) (pv 2) (fun _ _ => rfl)) pe_int) (pa_cons (pv 3) pa_nil)))) pa_nil)) pa_nil)) (pe_lst (pa_cons pe_int pa_nil))) (pa_cons (pe_lst (pa_cons pe_int (pa_cons pe_int pa_nil))) (pa_cons (pe_lst pa_nil) pa_nil))))))
    (pss_cons (ps_set (i := 5) sc__law_strange.nd rfl (Or.inl rfl) (pe_op op_cat (pe_lc (own := [("note", 6)]) (by rfl) sc__law_strange.nd (pi_listK (K := K) (pv 4)) (blkOk_by (own := [("note", 6)]) (N := nm__law_strange) (sc := defScope s__law_strange) (by decide +kernel)) (fun _ _ _ _ _ => (pg_name (i := 6) sc__law_strange.nd rfl (Or.inl rfl))) (fun _ _ _ _ _ => pts_nil) (fun _ _ _ _ _ => (pe_op op_cat (pe_lst (pa_cons pe_int pa_nil)) (pv 6)))) (pe_lst (pa_cons (pe_lst pa_nil) (pa_cons (pe_lst (pa_cons pe_int pa_nil)) (pa_cons (pe_lst (pa_cons pe_int pa_nil)) (pa_cons (pe_op op_cat (pe_lst (pa_cons pe_int pa_nil)) (pe_call G_write_triples (hr.mono (by omega)) (by rfl) e.m_write_triples e.k_write_triples e.b_write_triples .nil pass0 (pa_cons (pe_lst pa_nil) pa_nil))) (pa_cons (pe_op op_cat (pe_lst (pa_cons pe_int pa_nil)) (pe_call G_write_triples (hr.mono (by omega)) (by rfl) e.m_write_triples e.k_write_triples e.b_write_triples .nil pass0 (pa_cons (pe_lst (pa_cons (pe_tup (pa_cons (pv 2) (pa_cons (pe_op op_add (pe_ix (ix_listK (K := K)) (pv 1) (pv 2) (fun _ _ => rfl)) pe_int) (pa_cons (pv 3) pa_nil)))) pa_nil)) pa_nil))) pa_nil))))))))
    (pss_one (ps_ret (pe_call G__law_record (hr.mono (by omega)) (by rfl) e.m__law_record e.k__law_record e.b__law_record .nil pass0 (pa_cons (pe_ix (ix_listK (K := K)) (pv 5) (pe_call G__law_next (hr.mono (by omega)) (by rfl) e.m__law_next e.k__law_next e.b__law_next .nil pass0 (pa_cons (pv 0) (pa_cons (pe_callB (call_lenLK (K := K)) (by rfl) e.n_len (by decide +kernel) (pa_cons (pv 5) pa_nil)) pa_nil))) (fun _ _ => rfl)) pa_nil))))))))), ?_⟩
    refine enter (st__law_strange _ _) ?_
    walk_at "i"
    walk_at "r"
    refine ⟨a, c, ns, 8, rfl, hD, by decide, by decide, fun y H1 y0 y1 k1 D1 => ?_⟩
    obtain ⟨r, rfl⟩ := Int.eq_ofNat_of_zero_le y0
    obtain ⟨kk, hkk⟩ : ∃ kk, ks[r]? = some kk := ⟨_, List.getElem?_eq_getElem (by omega)⟩
    have hkb := hM kk (List.mem_of_getElem? hkk)
    have hat : atI (kV ks) (r : Int) = some (.int (kk : Int)) := atI_nat (by unfold kV; rw [List.getElem?_map, hkk]; rfl)
    have hcn1 := k1.get hcn (by simp [nca])
    walk_at "r"
    intro dt H2 nd k2 hdt
    walk_at "r"
    intro t1 H3 n3 k3 ht1
    walk_at "r"
    intro l1 H4 n4 k4 hl1
    walk_at "r"
    refine ⟨l1, [.ref t1], [⟨8, 1, .back 1⟩], rfl, hl1, vTs_b (k4.get ht1 (by simp)) ((k3.trans k4).get hdt (by simp)), okt_b (by decide) (by decide), by simp, Nat.le_trans (wts_b (by decide) (by decide)) (by decide), fun a1 H5 n5 k5 h1 => ?_⟩
    have k25 := k3.trans (k4.trans k5)
    have hdt5 := k25.get hdt (by simp)
    have hcn5 := (k2.trans k25).get hcn1 (by simp)
    clear hdt ht1 hl1 hcn1 k3 k4 k5
    walk_at "r"
    rw [show (kk : Int) + 2 = ((kk + 2 : Nat) : Int) by omega]
    intro t2 H6 n6 k6 ht2
    walk_at "r"
    intro l2 H7 n7 k7 hl2
    walk_at "r"
    refine ⟨l2, [.ref t2], [⟨r, kk + 2, .back 1⟩], rfl, hl2, vTs_b (k7.get ht2 (by simp)) ((k6.trans k7).get hdt5 (by simp)), okt_b (by omega) (by omega), by simp, Nat.le_trans (wts_b (by omega) (by omega)) (by decide), fun a2 H8 n8 k8 h2 => ?_⟩
    have k58 := k6.trans (k7.trans k8)
    have hdt8 := k58.get hdt5 (by simp)
    have hcn8 := k58.get hcn5 (by simp)
    have h18 := k58.get h1 (by simp)
    clear hdt5 ht2 hl2 hcn5 k6 k7 k8 h1
    walk_at "r"
    intro t3 H9 n9 k9 ht3
    walk_at "r"
    intro l3 H10 n10 k10 hl3
    walk_at "r"
    refine ⟨l3, [.ref t3], [⟨r, 0, .back 1⟩], rfl, hl3, vTs_b (k10.get ht3 (by simp)) ((k9.trans k10).get hdt8 (by simp)), okt_b (by omega) (by decide), by simp, Nat.le_trans (wts_b (by omega) (by decide)) (by decide), fun a3 H11 n11 k11 h3 => ?_⟩
    have k811 := k9.trans (k10.trans k11)
    have hdt11 := k811.get hdt8 (by simp)
    have hcn11 := k811.get hcn8 (by simp)
    have hL3 : Lsts H11 [.ref a1, .ref a2, .ref a3] [wts [⟨8, 1, .back 1⟩], wts [⟨r, kk + 2, .back 1⟩], wts [⟨r, 0, .back 1⟩]] := Paired.cons ⟨a1, rfl, k811.get h18 (by simp)⟩ (Paired.cons ⟨a2, rfl, k811.get h2 (by simp)⟩ (Paired.cons ⟨a3, rfl, h3⟩ Paired.nil))
    have hG3 : ∀ x ∈ ([wts [⟨8, 1, .back 1⟩], wts [⟨r, kk + 2, .back 1⟩], wts [⟨r, 0, .back 1⟩]] : List (List Int)), by8 x ∧ x.length ≤ 40 := by
      intro x hx
      simp only [List.mem_cons, List.not_mem_nil, or_false] at hx
      rcases hx with rfl | rfl | rfl
      · exact ⟨by_wts, wts_b (by decide) (by decide)⟩
      · exact ⟨by_wts, wts_b (by omega) (by omega)⟩
      · exact ⟨by_wts, wts_b (by omega) (by decide)⟩
    generalize ([wts [⟨8, 1, .back 1⟩], wts [⟨r, kk + 2, .back 1⟩], wts [⟨r, 0, .back 1⟩]] : List (List Int)) = xs3 at hL3 hG3
    have k211 := k2.trans (k25.trans (k58.trans k811))
    clear hdt8 ht3 hl3 hcn8 k9 k10 k11 h18 h2 h3 k2 k25 k58 k811
    walk_at "r"
    intro nl H12 n12 k12 hnl
    have hL12 := hL3.mono k12
    have hcn12 := k12.get hcn11 (by simp)
    have hdt12 := k12.get hdt11 (by simp)
    clear hL3 hcn11 hdt11
    walk_at "r"
    rw [show (kk : Int) + 1 = ((kk + 1 : Nat) : Int) by omega]
    intro t4 H13 n13 k13 ht4
    walk_at "r"
    intro l4 H14 n14 k14 hl4
    walk_at "r"
    refine ⟨l4, [.ref t4], [⟨r, kk + 1, .back 1⟩], rfl, hl4, vTs_b (k14.get ht4 (by simp)) ((k13.trans k14).get hdt12 (by simp)), okt_b (by omega) (by omega), by simp, Nat.le_trans (wts_b (by omega) (by omega)) (by decide), fun a4 H15 n15 k15 h4 => ?_⟩
    have k1215 := k13.trans (k14.trans k15)
    have hL15 := hL12.mono k1215
    have hcn15 := k1215.get hcn12 (by simp)
    have hdt15 := k1215.get hdt12 (by simp)
    have hnl15 := k1215.get hnl (by simp)
    have hb4 := wts_b (r := r) (p := kk + 1) (by omega) (by omega)
    clear hL12 hcn12 hdt12 hnl ht4 hl4 k13 k14 k15
    walk_at "r"
    intro z1 H16 n16 k16 hz1
    have h416 := k16.get h4 (by simp)
    walk_at "r"
    intro a5 H17 n17 k17 h5
    have h5' : H17 a5 = some (.lst ((wts [⟨r, kk + 1, .back 1⟩] ++ [0]).map V.int)) := by rw [h5, List.map_append]; rfl
    have hL17 := hL15.mono (k16.trans k17)
    have hcn17 := (k16.trans k17).get hcn15 (by simp)
    have hdt17 := (k16.trans k17).get hdt15 (by simp)
    have hnl17 := (k16.trans k17).get hnl15 (by simp)
    clear h5 hz1 h4 h416 hL15 hcn15 hdt15 hnl15
    walk_at "r"
    intro a6 H18 n18 k18 h6
    walk_at "r"
    intro a7 H19 n19 k19 h7
    walk_at "r"
    intro m2 H20 n20 k20 hm2
    have k1720 := k18.trans (k19.trans k20)
    have hL6 : Lsts H20 ([.ref a1, .ref a2, .ref a3] ++ [.ref a5, .ref a6, .ref a7]) (xs3 ++ [wts [⟨r, kk + 1, .back 1⟩] ++ [0], [1, 0], []]) :=
      pd_append (hL17.mono k1720) (Paired.cons ⟨a5, rfl, k1720.get h5' (by simp)⟩ (Paired.cons ⟨a6, rfl, (k19.trans k20).get h6 (by simp)⟩ (Paired.cons ⟨a7, rfl, k20.get h7 (by simp)⟩ Paired.nil)))
    have hG6 : ∀ x ∈ xs3 ++ [wts [⟨r, kk + 1, .back 1⟩] ++ [0], [1, 0], []], by8 x ∧ x.length ≤ 41 := by
      intro x hx
      rcases List.mem_append.mp hx with hx | hx
      · exact ⟨(hG3 x hx).1, Nat.le_succ_of_le (hG3 x hx).2⟩
      · simp only [List.mem_cons, List.not_mem_nil, or_false] at hx
        rcases hx with rfl | rfl | rfl
        · exact ⟨by_app by_wts (by_cons (by decide) by_nil), by rw [List.length_append, List.length_singleton]; omega⟩
        · exact ⟨by_cons (by decide) (by_cons (by decide) by_nil), by decide⟩
        · exact ⟨by_nil, by decide⟩
    have hnl20 := k1720.get hnl17 (by simp)
    have hcn20 := k1720.get hcn17 (by simp)
    have hdt20 := k1720.get hdt17 (by simp)
    have k1120 := k12.trans (k1215.trans (k16.trans (k17.trans k1720)))
    clear h5' h6 h7 hL17 hnl17 hcn17 hdt17 k18 k19 k20 k16 k17 k1720 k12 k1215
    walk_at "r"
    intro n2 H21 n21 k21 hn2
    have hL21 := hL6.mono k21
    have hcn21 := k21.get hcn20 (by simp)
    have hdt21 := k21.get hdt20 (by simp)
    generalize hxs6 : xs3 ++ [wts [⟨r, kk + 1, .back 1⟩] ++ [0], [1, 0], []] = xs6 at hL21 hG6
    generalize hus6 : ([.ref a1, .ref a2, .ref a3] ++ [.ref a5, .ref a6, .ref a7] : List V) = us6 at hn2 hL21
    have hl6 : us6.length = 6 := by rw [← hus6]; rfl
    clear hL6 hnl20 hm2 hcn20 hdt20 hxs6 hus6 hG3
    walk_at "r"
    refine lcL (SqL.of hn2) (fun D i H' => Keep [] H21 H' ∧ ∃ us, H' D = some (.lst us) ∧ Lsts H' us ((xs6.take i).map fun x => (4 : Int) :: x)) (fun D H22 nD k22 hD => ⟨k22, [], hD, by rw [List.take_zero]; exact Paired.nil⟩) (fun D i H' _ h => SqL.of (h.1.get hn2 (by simp))) ?_ ?_
    · rintro D i y H22 nD hy ⟨k22, us, hD, hL⟩
      obtain ⟨x, hx, t, rfl, ht⟩ := pd_get hL21 hy
      have hxl := (hG6 x (List.mem_of_getElem? hx)).2
      have ht22 := k22.get ht (by simp)
      have hul := hL.len
      rw [List.length_map, List.length_take] at hul
      have hil := (List.getElem?_eq_some_iff.mp hx).1
      have hx6 : xs6.length = 6 := by rw [← hL21.len, hl6]
      walk_at "i"
      walk_at "r"
      intro z1 H23 n23 k23 hz1
      have ht23 := k23.get ht22 (by simp)
      walk_at "r"
      intro z2 H24 n24 k24 hz2
      have hD24 := (k23.trans k24).get hD (by simp)
      have nz2D := ne_of_none (k23.get hD (by simp)) n24
      walk_at "r"
      intro H25 k25 h25
      refine ⟨(k22.trans (k23.trans k24)).mut nD k25, us ++ [.ref z2], h25, ?_⟩
      rw [List.take_add_one, hx, List.map_append]
      exact Paired.snoc (Lsts.mut hD24 k25 (hL.mono (k23.trans k24))) ⟨z2, rfl, by rw [k25.get hz2 (by simp [Ne.symm nz2D])]; rfl⟩
    rintro D H22 nD ⟨k22, us, hD, hL⟩
    rw [hl6, List.take_of_length_le (by rw [← hL21.len, hl6]; exact Nat.le_refl _)] at hL
    have hul : us.length = 6 := by rw [hL.len, List.length_map, ← hL21.len, hl6]
    have hG7 : ∀ x ∈ xs6.map (fun x => (4 : Int) :: x), Good8 x := by
      intro x hx
      obtain ⟨y, hy, rfl⟩ := List.mem_map.mp hx
      obtain ⟨g1, g2⟩ := hG6 y hy
      exact ⟨by_cons (by decide) g1, by rw [List.length_cons]; omega⟩
    generalize xs6.map (fun x => (4 : Int) :: x) = xs7 at hL hG7
    have hcn22 := k22.get hcn21 (by simp)
    have hdt22 := k22.get hdt21 (by simp)
    have k1122 := k1120.trans (k21.trans k22)
    clear hcn21 hdt21 hL21 hG6 hn2 k1120 k21 k22
    walk_at "r"
    intro b1 H23 n23 k23 hb1
    walk_at "r"
    intro b2 H24 n24 k24 hb2
    walk_at "r"
    intro b3 H25 n25 k25 hb3
    have k2225 := k23.trans (k24.trans k25)
    have hL25 := hL.mono k2225
    have hD25 := k2225.get hD (by simp)
    have hcn25 := k2225.get hcn22 (by simp)
    have hdt25 := k2225.get hdt22 (by simp)
    have hb15 := (k24.trans k25).get hb1 (by simp)
    have hb25 := k25.get hb2 (by simp)
    clear hL hD hcn22 hdt22 hb1 hb2 k23 k24 k25
    walk_at "r"
    intro z1 H26 n26 k26 hz1
    walk_at "r"
    intro l5 H27 n27 k27 hl5
    walk_at "r"
    have hw0 : (wts []).length ≤ 1 := by rw [wts_nil]; decide
    refine ⟨l5, [], [], rfl, hl5, Paired.nil, by simp, by simp, by omega, fun a8 H28 n28 k28 h8' => ?_⟩
    have hz128 := (k27.trans k28).get hz1 (by simp)
    walk_at "r"
    intro b4 H29 n29 k29 hb4'
    have k2529 := k26.trans (k27.trans (k28.trans k29))
    have hL29 := hL25.mono k2529
    have hD29 := k2529.get hD25 (by simp)
    have hcn29 := k2529.get hcn25 (by simp)
    have hdt29 := k2529.get hdt25 (by simp)
    have hb19 := k2529.get hb15 (by simp)
    have hb29 := k2529.get hb25 (by simp)
    have hb39 := k2529.get hb3 (by simp)
    have hb4'' : H29 b4 = some (.lst (((4 : Int) :: wts []).map V.int)) := by rw [hb4']; rfl
    clear hL25 hD25 hcn25 hdt25 hb15 hb25 hb3 hz1 hz128 hl5 h8' hb4' k26 k27 k28 k29
    walk_at "r"
    intro z1 H30 n30 k30 hz1
    walk_at "r"
    have hcn30 := k30.get hcn29 (by simp)
    have hdt30 := k30.get hdt29 (by simp)
    walk_at "r"
    rw [show (kk : Int) + 1 = ((kk + 1 : Nat) : Int) by omega]
    intro t5 H31 n31 k31 ht5
    walk_at "r"
    intro l6 H32 n32 k32 hl6'
    walk_at "r"
    refine ⟨l6, [.ref t5], [⟨r, kk + 1, .back 1⟩], rfl, hl6', vTs_b (k32.get ht5 (by simp)) ((k31.trans k32).get hdt30 (by simp)), okt_b (by omega) (by omega), by simp, Nat.le_trans (wts_b (by omega) (by omega)) (by decide), fun a9 H33 n33 k33 h9 => ?_⟩
    have hz133 := (k31.trans (k32.trans k33)).get hz1 (by simp)
    walk_at "r"
    intro b5 H34 n34 k34 hb5
    have hb5' : H34 b5 = some (.lst (((4 : Int) :: wts [⟨r, kk + 1, .back 1⟩]).map V.int)) := by rw [hb5]; rfl
    have k2934 := k30.trans (k31.trans (k32.trans (k33.trans k34)))
    have hL34 : Lsts H34 (us ++ [.ref b1, .ref b2, .ref b3, .ref b4, .ref b5]) (xs7 ++ [[], [5], [2], 4 :: wts [], 4 :: wts [⟨r, kk + 1, .back 1⟩]]) :=
      pd_append (hL29.mono k2934) (Paired.cons ⟨b1, rfl, k2934.get hb19 (by simp)⟩ (Paired.cons ⟨b2, rfl, k2934.get hb29 (by simp)⟩ (Paired.cons ⟨b3, rfl, k2934.get hb39 (by simp)⟩ (Paired.cons ⟨b4, rfl, k2934.get hb4'' (by simp)⟩ (Paired.cons ⟨b5, rfl, hb5'⟩ Paired.nil)))))
    have hG8 : ∀ x ∈ xs7 ++ [[], [5], [2], 4 :: wts [], 4 :: wts [⟨r, kk + 1, .back 1⟩]], Good8 x := by
      intro x hx
      rcases List.mem_append.mp hx with hx | hx
      · exact hG7 x hx
      · simp only [List.mem_cons, List.not_mem_nil, or_false] at hx
        rcases hx with rfl | rfl | rfl | rfl | rfl
        · exact ⟨by_nil, by decide⟩
        · exact ⟨by_cons (by decide) by_nil, by decide⟩
        · exact ⟨by_cons (by decide) by_nil, by decide⟩
        · exact ⟨by_cons (by decide) by_wts, by rw [List.length_cons]; omega⟩
        · exact ⟨by_cons (by decide) by_wts, by rw [List.length_cons]; omega⟩
    have hD34 := k2934.get hD29 (by simp)
    generalize xs7 ++ [[], [5], [2], 4 :: wts [], 4 :: wts [⟨r, kk + 1, .back 1⟩]] = xs8 at hL34 hG8
    have k1134 := k1122.trans (k2225.trans (k2529.trans k2934))
    clear hL29 hb19 hb29 hb39 hb4'' hb5 hb5' hz1 hz133 hcn29 hcn30 hdt29 hdt30 hl6' ht5 h9 hD29 k1122 k2225 k2529 k30 k31 k32 k33 k34 k2934
    walk_at "r"
    intro rl H35 n35 k35 hrl
    walk_at "r"
    intro rs H36 n36 k36 hrs
    have hL36 := hL34.mono (k35.trans k36)
    have hlen8 : (us ++ [.ref b1, .ref b2, .ref b3, .ref b4, .ref b5] : List V).length = 11 := by rw [List.length_append, hul]; rfl
    generalize (us ++ [.ref b1, .ref b2, .ref b3, .ref b4, .ref b5] : List V) = us8 at hrs hL36 hlen8
    have k136 := k211.trans (k1134.trans (k35.trans k36))
    have D36 := D1.more k136
    have nra : rs ≠ a := ((D1.more (k211.trans (k1134.trans k35))).fre n36).1
    clear hL34 hrl hD34 k35 k36 k1134 k211
    walk_at "r"
    rw [hlen8]
    refine ⟨a, c, ns, 11, rfl, D36, by decide, by decide, fun v H37 v0 v1 k37 D37 => ?_⟩
    obtain ⟨vi, rfl⟩ := Int.eq_ofNat_of_zero_le v0
    have hvi : vi < 11 := by omega
    obtain ⟨x, hx⟩ : ∃ x, xs8[vi]? = some x := ⟨_, List.getElem?_eq_getElem (by rw [← hL36.len, hlen8]; exact hvi)⟩
    obtain ⟨u, hu, t, rfl, ht⟩ := pd_get' hL36 hx
    have hat2 := atI_nat hu
    have hxg := hG8 x (List.mem_of_getElem? hx)
    have hxl := hxg.2
    have hrs37 := k37.get hrs (by simp [nra])
    have ht37 : H37 t = some (.lst (x.map V.int)) := by
      refine k37.get ht ?_
      intro z
      rw [List.mem_singleton] at z
      subst z
      obtain ⟨_, _, _, _, h, _⟩ := D36
      rw [h] at ht
      cases x with
      | nil => cases ht
      | cons y r => cases ht
    walk_at "r"
    refine ⟨t, x, rfl, ht37, by omega, fun p H38 np k38 hp => ?_⟩
    have hrec := rec_len x
    have hwn := wn_len3 (n := x.length) (by omega)
    exact q p (My.rec x) H38 ((k1.trans (k136.any.trans k37)).free np (by
      intro z
      rw [List.mem_singleton] at z
      subst z
      obtain ⟨_, _, _, _, h, _⟩ := D37
      rw [h] at np; cases np)) (k1.trans (k136.any.trans (k37.trans k38.any))) (D37.more k38) hp (by_rec hxg.1) (by omega)
end My

end
section
set_option maxHeartbeats 4000000
local macro_rules | `(tactic| walk_at "k") => `(tactic| first
  | assumption
  | exact W.Keep.trans (by assumption) (by assumption)
  | exact And.intro (by grind [W.Keep, W.Kp]) (by grind [W.Keep, W.Kt])
  | grind [W.Keep, W.Kp])
local macro_rules | `(tactic| walk_at "f") => `(tactic| first
  | assumption
  | exact L2.SqL.of (by assumption)
  | exact L2.SqT.of (by assumption)
  | exact L2.SqL.of L2.upd_same
  | exact L2.SqT.of L2.upd_same
  | exact L2.upd_same
  | exact W.carryL (by assumption) (by assumption)
  | exact W.carryL (by assumption) (by walk_at "k")
  | exact W.carryT (by assumption) (by walk_at "k")
  | exact W.carry (by assumption) (by grind [W.Keep, W.Kp])
  | exact L2.SqL.of (W.carry (by assumption) (by grind [W.Keep, W.Kp]))
  | exact L2.SqT.of (W.carry (by assumption) (by grind [W.Keep, W.Kp])))
local macro_rules | `(tactic| walk_at "a") => `(tactic| first
  | assumption
  | rfl)
local macro_rules | `(tactic| walk_at "n") => `(tactic| first
  | assumption
  | exact Nat.zero_le _
  | decide
  | (simp only [List.length_cons, List.length_nil]; decide)
  | omega
  | (simp only [PySem.sizeLine_eq]; omega)
  | (simp only [List.length_map, List.length_append, List.length_cons, List.length_nil, PySem.sizeLine_eq]; omega)
  | (simp only [List.length_map, List.length_append, List.length_cons, List.length_nil, List.length_take, List.length_drop, PySem.sizeLine_eq]; omega)
  | (simp only [List.length_map, List.length_append, List.length_cons, List.length_nil, PySem.sizeLine_eq] at *; omega))
local macro_rules | `(tactic| walk_at "c") => `(tactic| first
  | assumption
  | decide
  | exact And.intro (by decide) (by decide)
  | exact Or.inr (And.intro (by decide) (by decide))
  | exact Or.inl (And.intro (by decide) (by decide))
  | exact And.intro (by decide) (And.intro (by decide) (by decide))
  | exact (show (0 : Int) < _ by decide)
  | exact And.intro (by omega) (by omega)
  | exact Or.inl (And.intro (by omega) (by omega))
  | exact Or.inr (And.intro (by omega) (by omega))
  | exact (show (0 : Int) < _ by omega))
local macro_rules | `(tactic| walk_at "v") => `(tactic| with_reducible first
  | refine W.v0 ?_ | refine W.v1 ?_ | refine W.v2 ?_ | refine W.v3 ?_ | refine W.v4 ?_ | refine W.v5 ?_ | refine W.v6 ?_ | refine W.v7 ?_ | refine W.v8 ?_
  | refine W.v9 ?_ | refine W.v10 ?_ | refine W.v11 ?_ | refine W.v12 ?_ | refine W.v13 ?_ | refine W.v14 ?_ | refine W.v15 ?_ | refine W.v16 ?_ | refine W.v17 ?_
  | refine W.g0 ?_ | refine W.g1 ?_ | refine W.g2 ?_ | refine W.g3 ?_ | refine W.g4 ?_ | refine W.g5 ?_ | refine W.g6 ?_ | refine W.g7 ?_ | refine W.g8 ?_
  | refine W.g9 ?_ | refine W.g10 ?_ | refine W.g11 ?_ | refine W.g12 ?_ | refine W.g13 ?_ | refine W.g14 ?_ | refine W.g15 ?_)
local macro_rules | `(tactic| walk_at "e") => `(tactic| with_reducible first
  | refine W.e_c ?_ | refine W.e_op ?_ | refine W.s_seq ?_ | refine W.s_asg ?_ | refine W.e_CB ?_ | refine W.a_cons ?_ | refine W.a_nil ?_ | refine W.e_call ?_
  | refine W.t_test ?_ | refine W.w_B ?_ | refine W.s_if ?_ | refine W.s_ret ?_ | refine W.s_drop ?_ | refine W.e_un ?_ | refine W.e_fld ?_ | refine W.s_fld ?_
  | refine W.e_meth ?_ | refine W.e_if ?_ | refine W.e_lst ?_ | refine W.e_tup ?_ | refine W.e_sl ?_ | refine W.o_none ?_ | refine W.o_some ?_ | refine W.w_part ?_
  | refine W.e_bm ?_ | refine W.e_bm0 ?_ | refine W.t_B ?_ | refine W.t_and ?_ | refine W.t_or ?_ | refine W.t_not ?_ | refine W.e_andV ?_ | refine W.e_orV ?_ | refine W.e_notV ?_ | refine W.w_BV ?_ | refine W.e_chain ?_
  | refine W.s_aug ?_ | refine W.s_augS ?_ | refine W.s_next ?_ | refine W.s_brk ?_ | refine W.s_cont ?_ | refine W.s_retN ?_ | refine W.s_fa ?_ | refine W.e_make ?_ | refine W.w_make ?_
  | refine W.w_I0 ?_ | refine W.w_U ?_ | refine W.w_aug ?_ | refine W.w_eqI ?_ | refine W.w_neI ?_ | refine W.w_eqS ?_ | refine W.w_neS ?_ | refine W.w_eqB ?_ | refine W.w_neB ?_
  | refine W.w_int ?_ | refine W.w_intB ?_ | refine W.w_min ?_ | refine W.w_max ?_ | refine W.w_isN ?_ | refine W.w_isI ?_ | refine W.w_isS ?_ | refine W.w_isB ?_ | refine W.w_isR ?_
  | refine W.w_notN ?_ | refine W.w_notI ?_ | refine W.w_notR ?_ | refine W.w_notS ?_ | refine W.w_eqNI ?_ | refine W.w_neNI ?_ | refine W.w_eqN ?_ | refine W.w_neN ?_
  | refine W.s_forL ?_ | refine W.s_forT ?_ | refine W.s_forS ?_ | refine W.s_forR1 ?_ | refine W.s_forR2 ?_ | refine W.s_forR3 ?_ | refine W.s_forZ ?_ | refine W.s_forE ?_
  | refine W.e_lcL ?_ | refine W.e_lcT ?_ | refine W.w_ord ?_ | refine W.e_lcR1 ?_ | refine W.e_lcR2 ?_ | refine W.e_lcZ ?_ | refine W.e_lcS ?_ | refine W.t_yes ?_ | refine W.w_gcons ?_ | refine W.w_gnil ?_ | refine W.s_par ?_ | refine W.w_par ?_ | refine W.g_sub ?_ | refine W.e_m1 ?_ | refine W.w_strR ?_ | refine W.w_rAdd ?_ | refine W.w_rSub ?_ | refine W.s_raise ?_ | refine W.s_try ?_ | refine W.e_methS ?_ | refine W.e_callS ?_)
local macro_rules | `(tactic| walk_at "w") => `(tactic| first
  | ((with_reducible refine' W.w_I ?wh ?wq); (case wh => walk_at "c"))
  | ((with_reducible refine' W.w_ixL (n := 0) ?wh ?we ?wq); (case wh => walk_at "f"); (case we => walk_at "a"))
  | ((with_reducible refine' W.w_ixT (n := 0) ?wh ?we ?wq); (case wh => walk_at "f"); (case we => walk_at "a"))
  | ((with_reducible refine' W.w_lenL ?wh ?wq); (case wh => walk_at "f"))
  | ((with_reducible refine' W.w_lenT ?wh ?wq); (case wh => walk_at "f"))
  | ((with_reducible refine' W.w_lenS ?wh ?wq); (case wh => walk_at "n"))
  | ((with_reducible refine' W.w_app ?wh ?we ?wq); (case wh => walk_at "f"); (case we => walk_at "n"))
  | ((with_reducible refine' W.w_meth ?wh ?we ?wq); (case wh => walk_at "f"); (case we => first | assumption | rfl))
  | ((with_reducible refine' W.w_ixLTl ?wh ?we ?wq); (case wh => walk_at "f"); (case we => walk_at "a"))
  | ((with_reducible refine' W.w_ixLTt ?wh ?we ?wq); (case wh => walk_at "f"); (case we => walk_at "a"))
  | ((with_reducible refine' W.w_addS ?wh ?wq); (case wh => walk_at "n"))
  | ((with_reducible refine' W.w_set ?wh ?we ?wq); (case wh => walk_at "f"); (case we => walk_at "a"))
  | ((with_reducible refine' W.w_tup ?wh ?we ?wq); (case wh => walk_at "f"); (case we => first | assumption | rfl))
  | ((with_reducible refine' W.w_slS ?wh ?wq); (case wh => walk_at "n"))
  | ((with_reducible refine' W.w_rApp ?wh ?we ?wq); (case wh => walk_at "f"); (case we => walk_at "n"))
  | ((with_reducible refine' W.w_newL ?wh ?wq); (case wh => walk_at "n"))
  | ((with_reducible refine' W.w_newT ?wh ?wq); (case wh => walk_at "n"))
  | ((with_reducible refine' W.w_listL ?wh ?wq); (case wh => walk_at "f"))
  | ((with_reducible refine' W.w_tupL ?wh ?wq); (case wh => walk_at "f"))
  | ((with_reducible refine' W.w_slL ?wh ?wq); (case wh => walk_at "f"))
  | ((with_reducible refine' W.w_cat ?wh ?wf ?we ?wq); (case wh => walk_at "f"); (case wf => walk_at "f"); (case we => walk_at "n"))
  | ((with_reducible refine' W.w_catT ?wh ?wf ?wx ?wy ?we ?wq); (case wh => walk_at "f"); (case wf => walk_at "f"); (case wx => exact List.cons_ne_nil _ _); (case wy => exact List.cons_ne_nil _ _); (case we => walk_at "n"))
  | ((with_reducible refine' W.w_ext ?wh ?wf ?we ?wq); (case wh => walk_at "f"); (case wf => walk_at "f"); (case we => walk_at "n"))
  | ((with_reducible refine' W.w_recv ?wh ?wq); (case wh => walk_at "f"))
  | ((with_reducible refine' W.w_isi1 ?wh ?we ?wq); (case wh => assumption); (case we => decide +kernel))
  | ((with_reducible refine' W.w_isi0 ?wh ?we ?wq); (case wh => assumption); (case we => decide +kernel))
  | ((with_reducible refine' W.w_isiT10 ?wh ?wf ?we ?wg ?wq); (case wh => assumption); (case wf => walk_at "f"); (case we => decide +kernel); (case wg => decide +kernel))
  | ((with_reducible refine' W.w_isiT01 ?wh ?wf ?we ?wg ?wq); (case wh => assumption); (case wf => walk_at "f"); (case we => decide +kernel); (case wg => decide +kernel))
  | ((with_reducible refine' W.w_isiT00 ?wh ?wf ?we ?wg ?wq); (case wh => assumption); (case wf => walk_at "f"); (case we => decide +kernel); (case wg => decide +kernel))
  | ((with_reducible refine' W.w_ins ?wh ?we ?wf ?wq); (case wh => walk_at "f"); (case we => walk_at "n"); (case wf => walk_at "c"))
  | ((with_reducible refine' W.w_unl ?wh ?we ?wq); (case wh => walk_at "f"); (case we => first | assumption | rfl))
  | ((with_reducible refine' W.ite_T ?_))
  | ((with_reducible refine' W.ite_F ?_))
  | ((with_reducible refine' W.ite_nT ?_))
  | ((with_reducible refine' W.ite_nF ?_))
  | ((with_reducible refine' W.ite_self ?_))
  | ((with_reducible refine' W.ite_nself ?_))
  | ((with_reducible refine' W.ite_tf ?_))
  | ((with_reducible refine' W.ite_ft ?_))
  | ((with_reducible refine' W.ite_ntf ?_))
  | ((with_reducible refine' W.ite_nft ?_))
  | ((with_reducible refine' And.intro ?wl ?wq); (case wl => rfl)))
local macro_rules | `(tactic| walk_at "i") => `(tactic| try (dsimp only [L2.cxOf, L2.wipe, List.map, List.set]))
local macro_rules | `(tactic| walk_at "s") => `(tactic| first | walk_at "v" | walk_at "e" | walk_at "w")
local macro_rules | `(tactic| walk_at "r") => `(tactic| repeat walk_at "s")

namespace My
open PySem L2 W
variable {P : Program} {w : World} {K : PySem.W.Frag} {mg : Str → Option Value} {base : Heap} {A : Adr}
def onlyL (S : List Addr) : Hp := fun b => if b ∈ S then some (.lst []) else none
theorem onlyL_no {S : List Addr} {t : Addr} (h : t ∉ S) : onlyL S t = none := by unfold onlyL; rw [if_neg h]
theorem onlyL_S {S T : List Addr} (h : ∀ x ∈ T, x ∈ S) : ∀ x ∈ T, onlyL S x ≠ none := fun x hx => by unfold onlyL; rw [if_pos (h x hx)]; simp
def GrpV (S : List Addr) (H : Hp) (us : List V) (gs : List (List Tri)) : Prop := Paired (fun v ts => ∃ g ws, v = V.ref g ∧ g ∉ S ∧ H g = some (.lst ws) ∧ vTs H ts ws) us gs
theorem GrpV.keep {S T : List Addr} {H H' : Hp} {us : List V} {gs : List (List Tri)} (h : GrpV S H us gs) (k : Keep T H H') (n : ∀ x ∈ T, x ∈ S) : GrpV S H' us gs :=
  Paired.mapP h fun _ _ ⟨g, ws, e, ng, hg, hT⟩ => ⟨g, ws, e, ng, k.get hg (fun z => ng (n g z)), vTs.keep hT k⟩
theorem GrpV.fresh {S T : List Addr} {H : Hp} {us : List V} {gs : List (List Tri)} (h : GrpV S H us gs) (n : ∀ x ∈ T, H x = none) : GrpV (T ++ S) H us gs :=
  Paired.mapP h fun _ _ ⟨g, ws, e, ng, hg, hT⟩ => ⟨g, ws, e, fun z => (List.mem_append.mp z).elim (fun z => by rw [n g z] at hg; cases hg) ng, hg, hT⟩
def RowsT (ts : List Addr) (H : Hp) (rs : Addr) (rows : Rws) : Prop := H rs = some (.lst (ts.map V.ref)) ∧ (rs :: ts).Nodup ∧ Paired (fun t row => Row H t row) ts rows
theorem RowsT.keep {ts T : List Addr} {H H' : Hp} {rs : Addr} {rows : Rws} (h : RowsT ts H rs rows) (k : Keep T H H') (n : ∀ x ∈ rs :: ts, x ∉ T) : RowsT ts H' rs rows :=
  ⟨k.get h.1 (n rs (by simp)), h.2.1, pd_mem h.2.2 fun x y hx h => h.mono k (n x (by simp [hx]))⟩
theorem RowsT.ex {ts : List Addr} {H : Hp} {rs : Addr} {rows : Rws} (h : RowsT ts H rs rows) : ∀ x ∈ rs :: ts, ∃ us, H x = some (.lst us) := fun x hx => by
  rcases List.mem_cons.mp hx with rfl | hx
  · exact ⟨_, h.1⟩
  · obtain ⟨i, hi, e⟩ := List.getElem_of_mem hx
    obtain ⟨row, _, ws, hws, _⟩ := pd_get h.2.2 (List.getElem?_eq_getElem hi)
    rw [e] at hws
    exact ⟨_, hws⟩
theorem RowsT.grow {ts : List Addr} {H H1 : Hp} {rs t : Addr} {rows : Rws} {row : List Dd} {ws : List V} {v : V} {d : Dd} {i : Nat} (h : RowsT ts H rs rows) (ht : ts[i]? = some t) (hrow : rows[i]? = some row) (hws : H t = some (.lst ws)) (hd : vD H d v) (k : Keep [t] H H1) (hg : H1 t = some (.lst (ws ++ [v]))) : RowsT ts H1 rs (rows.set i (row ++ [d])) := by
  obtain ⟨ts', h1, h2, h3, _⟩ := RowsN.grow (H0 := fun _ => none) h.1 h.2.1 h.2.2 (fun _ _ => rfl) ht hrow hws hd k hg
  have h1' := (RowsN.grow (H0 := fun _ => none) h.1 h.2.1 h.2.2 (fun _ _ => rfl) ht hrow hws hd k hg)
  have hk : H1 rs = some (.lst (ts.map V.ref)) := k.get h.1 (by
    intro z
    rw [List.mem_singleton] at z
    subst z
    exact (List.nodup_cons.mp h.2.1).1 (List.mem_of_getElem? ht))
  rw [hk] at h1
  injection h1 with h1
  injection h1 with h1
  have e : ts = ts' := by
    have := List.map_inj_right (f := V.ref) (fun x y h => by injection h) |>.mp h1
    exact this
  subst e
  exact ⟨hk, h2, h3⟩
theorem BaN.onlyL {S : List Addr} {H : Hp} {A : Adr} {b : Addr} {bs : Bs} (h : Ba A H b bs) (n : ∀ x ∈ S, H x = none) : BaN (My.onlyL S) A H b bs := by
  obtain ⟨dx, d, h1, ⟨dx2, rs, h5, ⟨ts, g1, g2, g3, g4⟩, h7⟩, h3, h4⟩ := h
  have no : ∀ x o, H x = some o → My.onlyL S x = none := fun x o hx => onlyL_no fun z => by rw [n x z] at hx; cases hx
  refine ⟨dx, d, h1, ⟨dx2, rs, h5, ⟨ts, g1, g2, g3, fun t ht => ?_⟩, no _ _ h5⟩, no _ _ h1, h4⟩
  obtain ⟨us, hu⟩ := RowsT.ex (H := H) ⟨g1, g2, g3⟩ t ht
  exact no _ _ hu
theorem BaN.onlyL' {S : List Addr} {H0 H : Hp} {A : Adr} {b : Addr} {bs : Bs} (h : BaN H0 A H b bs) (n : ∀ x ∈ S, H0 x ≠ none) : BaN (My.onlyL S) A H b bs := by
  obtain ⟨dx, d, h1, ⟨dx2, rs, h5, ⟨ts, g1, g2, g3, g4⟩, h7⟩, h3, h4⟩ := h
  have no : ∀ x, H0 x = none → My.onlyL S x = none := fun x hx => onlyL_no fun z => n x z hx
  exact ⟨dx, d, h1, ⟨dx2, rs, h5, ⟨ts, g1, g2, g3, fun t ht => no _ (g4 t ht)⟩, no _ h7⟩, no _ h3, h4⟩
theorem pd_last {α β : Type} {F : α → β → Prop} {xs : List α} {ys : List β} {x : α} {y : β} (h : Paired F (xs ++ [x]) (ys ++ [y])) : F x y := by
  have hl := Paired.length h
  simp only [List.length_append, List.length_singleton] at hl
  obtain ⟨z, hz, hf⟩ := pd_get h (show (xs ++ [x])[xs.length]? = some x by simp)
  rw [show xs.length = ys.length by omega] at hz
  simp at hz
  subst hz
  exact hf
theorem fg_next {rows r rN : Rws} {gs : List (List Tri)} {i : Nat} {ts : List Tri} (h : fg rows gs = some rN) (hr : fg rows (gs.take i) = some r) (ht : gs[i]? = some ts) : ∃ r', nxs r ts = some r' ∧ fg rows (gs.take (i + 1)) = some r' := by
  have e : fg r (gs.drop i) = some rN := by
    have := fg_app rows (gs.take i) (gs.drop i)
    rw [List.take_append_drop, h, hr] at this
    exact this.symm
  have hil := (List.getElem?_eq_some_iff.mp ht).1
  have hd : gs.drop i = ts :: gs.drop (i + 1) := by
    rw [List.drop_eq_getElem_cons hil]
    congr 1
    exact (List.getElem?_eq_some_iff.mp ht).2
  rw [hd] at e
  have e : (nxs r ts).bind (fun r => fg r (gs.drop (i + 1))) = some rN := e
  cases hn : nxs r ts with
  | none => rw [hn] at e; cases e
  | some r' => exact ⟨r', rfl, by rw [List.take_add_one, ht]; show fg rows (gs.take i ++ [ts]) = _; rw [fg_snoc, hr]; exact hn⟩
theorem okRows.mono {rows : Rws} {M N : Nat} (h : okRows rows M) (k : M ≤ N) : okRows rows N := fun row hr => ⟨Nat.le_trans (h row hr).1 k, (h row hr).2⟩
theorem hBaK {U T : List Addr} {H H' : Hp} {A : Adr} {bv : List V} {bss : List Bs} (h : Paired (fun v bs => ∃ b, v = V.ref b ∧ BaN (onlyL U) A H b bs) bv bss) (k : Keep T H H') (n : ∀ x ∈ T, x ∈ U) : Paired (fun v bs => ∃ b, v = V.ref b ∧ BaN (onlyL U) A H' b bs) bv bss :=
  Paired.mapP h fun _ _ ⟨b, e, hb⟩ => ⟨b, e, hb.keepN k (onlyL_S n)⟩
theorem _root_.W.Keep.mutL {S U : List Addr} {H H1 H2 : Hp} (k : Keep S H H1) (n : ∀ x ∈ U, H x = none) (k2 : Keep U H1 H2) : Keep S H H2 :=
  Keep.of (fun b o hb h => k2.get (k.get h hb) (fun z => by rw [n b z] at h; cases h)) fun b xs h => k2.2 b xs (k.2 b xs h)
theorem dep_Bs (bs : Bs) : dep (pdBs bs) ≤ 6 := by
  have h1 : ∀ row : List Dd, dep (pdRow row) ≤ 4 := fun row => by
    have := depL_le (ds := row.map pdD) (n := 3) (fun d hd => by obtain ⟨m, _, rfl⟩ := List.mem_map.mp hd; exact dep_D m)
    simp only [pdRow, dep]; omega
  have h2 := depL_le (ds := bs.2.map pdRow) (n := 4) (fun d hd => by obtain ⟨m, _, rfl⟩ := List.mem_map.mp hd; exact h1 m)
  simp only [pdBs, dep, depL]; omega
theorem wid_Bs {bs : Bs} {N : Nat} (h8 : bs.2.length = 8) (h : ∀ row ∈ bs.2, row.length ≤ N ∧ ∀ d ∈ row, wdD d ≤ N) : wid (pdBs bs) ≤ max 8 N := by
  have h1 : ∀ row ∈ bs.2, wid (pdRow row) ≤ max 8 N := fun row hr => by
    have := widL_le (ds := row.map pdD) (n := max 6 N) (fun d hd => by
      obtain ⟨m, hm, rfl⟩ := List.mem_map.mp hd
      have h1 := wid_D m
      have h2 := (h row hr).2 m hm
      omega)
    have h3 := (h row hr).1
    simp only [pdRow, wid, List.length_map]; omega
  have h2 := widL_le (ds := bs.2.map pdRow) (n := max 8 N) (fun d hd => by obtain ⟨m, hm, rfl⟩ := List.mem_map.mp hd; exact h1 m hm)
  simp only [pdBs, wid, widL, List.length_cons, List.length_nil, List.length_map]; omega
theorem wdD_sml {d : Dd} (h : sml d) : wdD d = 0 := by
  cases d with
  | back n => rfl
  | chg m rm bh n t =>
    have := h.2.2
    have : rm = [] := this
    subst this; rfl
def lD (x : List Int) : PyData := .list (x.map .int)
theorem lD_dep (x : List Int) : dep (lD x) ≤ 6 := by show depL (x.map PyData.int) + 1 ≤ 6; rw [depL_ints]; omega
theorem lD_wid {x : List Int} (h : x.length ≤ 1000000) : wid (lD x) ≤ 16777216 := by show max (x.map PyData.int).length (widL (x.map PyData.int)) ≤ _; rw [widL_ints, List.length_map]; omega
def r0 : Rws := List.replicate 8 []
def sp_file : Sp := fun vs H Q _ => ∃ (a c : Addr) (ns : List Int), vs = [.ref a] ∧ Drw a c ns H ∧
  ∀ p es H', H p = none → Keep [a] H H' → Drw a c ns H' → H' p = some (.lst (es.map V.int)) → by8 es → es.length ≤ 200000 → Q (.ref p) H'
theorem ok__law_file (e : Env K mg A) : FnOk P w K mg base CX0 9 A.f__law_file A.d__law_file ["state"] sp_file := by
  have G__law_next := ok__law_next (P := P) (w := w) (base := base) e
  have G__law_group := ok__law_group (P := P) (w := w) (base := base) e
  have G__law_strange := ok__law_strange (P := P) (w := w) (base := base) e
  have G__law_record := ok__law_record (P := P) (w := w) (base := base) e
  have G__law_same := ok__law_same (P := P) (w := w) (base := base) e 7
  have G_Base___init__ := ok_Base___init__ (P := P) (w := w) (base := base) e
  have G_Base_grown := ok_Base_grown (P := P) (w := w) (base := base) e
  have G_Base_data := ok_Base_data (P := P) (w := w) (base := base) e
  have G_write_number := ok_write_number (P := P) (w := w) (base := base) e
  have G_write_deed := ok_write_deed (P := P) (w := w) (base := base) e
  have G_write_triples := ok_write_triples (P := P) (w := w) (base := base) e
  have G_write_note := ok_write_note (P := P) (w := w) (base := base) e
  have G_log_start := ok_log_start (P := P) (w := w) (base := base) e
  refine e.F__law_file.ok sc__law_file (fun vs H Q E h => ?_) (fun cdv AA outer s H vs Q E hr h => ?_)
  · obtain ⟨a, c, ns, rfl, _⟩ := h
    rfl
  · obtain ⟨a, c, ns, rfl, hD, q⟩ := h
    refine ⟨_, (pss_cons (ps_set (i := 1) sc__law_file.nd rfl (Or.inr rfl) (pe_op op_rep (pe_lst (pa_cons pe_int pa_nil)) pe_int))
    (pss_cons (ps_setLc (i := 2) (own := [("k", 3)]) (by rfl) sc__law_file.nd rfl rfl (sw_true rfl rfl rfl (by decide +kernel)) (pi_range1 rfl e.n_range (pa_cons (pe_call G__law_next (hr.mono (by omega)) (by rfl) e.m__law_next e.k__law_next e.b__law_next .nil pass0 (pa_cons (pv 0) (pa_cons pe_int pa_nil))) pa_nil)) (blkOk_by (own := [("k", 3)]) (N := nm__law_file) (sc := defScope s__law_file) (by decide +kernel)) (fun _ _ _ _ _ => (pg_name (i := 3) sc__law_file.nd rfl (Or.inl rfl))) (fun _ _ _ _ _ => pts_nil) (fun _ _ _ _ _ => (pe_call G__law_group (hr.mono (by omega)) (by rfl) e.m__law_group e.k__law_group e.b__law_group .nil pass0 (pa_cons (pv 0) (pa_cons (pv 1) pa_nil)))))
    (pss_cons (ps_set (i := 4) sc__law_file.nd rfl (Or.inl rfl) (pe_call G__law_next (hr.mono (by omega)) (by rfl) e.m__law_next e.k__law_next e.b__law_next .nil pass0 (pa_cons (pv 0) (pa_cons (pe_op op_add (pe_callB (call_lenLK (K := K)) (by rfl) e.n_len (by decide +kernel) (pa_cons (pv 2) pa_nil)) pe_int) pa_nil))))
    (pss_cons (ps_set (i := 5) sc__law_file.nd rfl (Or.inl rfl) (pe_ix (ix_listK (K := K)) (pe_lst (pa_cons pe_int (pa_cons pe_int (pa_cons pe_int (pa_cons pe_int pa_nil))))) (pe_call G__law_next (hr.mono (by omega)) (by rfl) e.m__law_next e.k__law_next e.b__law_next .nil pass0 (pa_cons (pv 0) (pa_cons pe_int pa_nil))) (fun _ _ => rfl)))
    (pss_cons (ps_set (i := 6) sc__law_file.nd rfl (Or.inl rfl) (pe_lst (pa_cons (pe_make0 e.M_Base G_Base___init__ (hr.mono (by omega)) (by rfl) e.m_Base e.b_Base___init__ .nil pass0) pa_nil)))
    (pss_cons (ps_setLc (i := 7) (own := [("replica", 8)]) (by rfl) sc__law_file.nd rfl rfl (sw_true rfl rfl rfl (by decide +kernel)) (pi_range1 rfl e.n_range (pa_cons pe_int pa_nil)) (blkOk_by (own := [("replica", 8)]) (N := nm__law_file) (sc := defScope s__law_file) (by decide +kernel)) (fun _ _ _ _ _ => (pg_name (i := 8) sc__law_file.nd rfl (Or.inl rfl))) (fun _ _ _ _ _ => pts_nil) (fun _ _ _ _ _ => (pe_lst pa_nil)))
    (pss_cons (ps_for PassesOwn.never rfl (pi_listK (K := K) (pe_slice (sl_listK (K := K)) (pv 2) po_none (po_some (pv 4)))) (pg_name (i := 9) sc__law_file.nd rfl (Or.inl rfl)) (pss_cons (ps_expr (pe_bmK (K := K) PySem.F.plainAttrs_list PySem.F.slot_list_append PySem.F.type_list_append mt_append (pv 6) (pa_cons (pe_meth (pe_ix (ix_listK (K := K)) (pv 6) (pe_un un_neg pe_int) (fun _ _ => rfl)) e.c_Base e.h_Base_grown G_Base_grown (hr.mono (by omega)) e.b_Base_grown .nil pass0 (pa_cons (pe_callTy (call_listLK (K := K)) (by rfl) e.n_list (by decide +kernel) (pa_cons (pv 9) pa_nil)) pa_nil)) pa_nil)))
    (pss_one (ps_for PassesOwn.never rfl (pi_listK (K := K) (pv 9)) (pg_tupK (K := K) (n := 3) rfl (pgs_cons (pg_name (i := 8) sc__law_file.nd rfl (Or.inl rfl)) (pgs_cons (pg_name (i := 10) sc__law_file.nd rfl (Or.inl rfl)) (pgs_cons (pg_name (i := 11) sc__law_file.nd rfl (Or.inl rfl)) pgs_nil)))) (pss_one (ps_expr (pe_bmK (K := K) PySem.F.plainAttrs_list PySem.F.slot_list_append PySem.F.type_list_append mt_append (pe_ix (ix_listK (K := K)) (pv 7) (pv 8) (fun _ _ => rfl)) (pa_cons (pv 11) pa_nil))))))))
    (pss_cons (ps_set (i := 12) sc__law_file.nd rfl (Or.inl rfl) (pe_op op_cat (pe_lst (pa_cons pe_int pa_nil)) (pe_call G_write_number (hr.mono (by omega)) (by rfl) e.m_write_number e.k_write_number e.b_write_number .nil pass0 (pa_cons (pv 4) pa_nil))))
    (pss_cons (ps_for PassesOwn.never rfl (pi_listK (K := K) (pv 7)) (pg_name (i := 13) sc__law_file.nd rfl (Or.inl rfl)) (pss_cons (ps_set (i := 12) sc__law_file.nd rfl (Or.inl rfl) (pe_op op_cat (pv 12) (pe_call G_write_number (hr.mono (by omega)) (by rfl) e.m_write_number e.k_write_number e.b_write_number .nil pass0 (pa_cons (pe_callB (call_lenLK (K := K)) (by rfl) e.n_len (by decide +kernel) (pa_cons (pv 13) pa_nil)) pa_nil))))
    (pss_one (ps_for PassesOwn.never rfl (pi_listK (K := K) (pv 13)) (pg_name (i := 11) sc__law_file.nd rfl (Or.inl rfl)) (pss_one (ps_set (i := 12) sc__law_file.nd rfl (Or.inl rfl) (pe_op op_cat (pv 12) (pe_call G_write_deed (hr.mono (by omega)) (by rfl) e.m_write_deed e.k_write_deed e.b_write_deed .nil pass0 (pa_cons (pv 11) pa_nil)))))))))
    (Evl.pss_cut (ps_if (PW.pt (pw_or (pt_not (pt_val (pe_call G__law_same (hr.mono (by omega)) (by rfl) e.m__law_same e.k__law_same e.b__law_same .nil pass0 (pa_cons (pe_meth0 (pe_ix (ix_listK (K := K)) (pv 6) (pe_un un_neg pe_int) (fun _ _ => rfl)) e.c_Base e.h_Base_data G_Base_data (hr.mono (by omega)) e.b_Base_data .nil pass0) (pa_cons (pe_tup (pa_cons (pv 4) (pa_cons (pe_callTy (call_tupleLK (K := K)) (by rfl) e.n_tuple (by decide +kernel) (pa_cons (pe_lc (own := [("row", 13)]) (by rfl) sc__law_file.nd (pi_listK (K := K) (pv 7)) (blkOk_by (own := [("row", 13)]) (N := nm__law_file) (sc := defScope s__law_file) (by decide +kernel)) (fun _ _ _ _ _ => (pg_name (i := 13) sc__law_file.nd rfl (Or.inl rfl))) (fun _ _ _ _ _ => pts_nil) (fun _ _ _ _ _ => (pe_callTy (call_tupleLK (K := K)) (by rfl) e.n_tuple (by decide +kernel) (pa_cons (pv 13) pa_nil)))) pa_nil)) pa_nil))) pa_nil))))) (pw_or1 (pt_not (pt_val (pe_call G__law_same (hr.mono (by omega)) (by rfl) e.m__law_same e.k__law_same e.b__law_same .nil pass0 (pa_cons (pe_meth0 (pe_ix (ix_listK (K := K)) (pv 6) pe_int (fun _ _ => rfl)) e.c_Base e.h_Base_data G_Base_data (hr.mono (by omega)) e.b_Base_data .nil pass0) (pa_cons (pe_tup (pa_cons pe_int (pa_cons (pe_op (op_repTK (K := K)) (pe_tup (pa_cons (pe_tup pa_nil) pa_nil)) pe_int) pa_nil))) pa_nil)))))))) (pss_one (ps_ret pe_non)) pss_nil)
    (pss_cons (ps_set (i := 12) sc__law_file.nd rfl (Or.inl rfl) (pe_op op_cat (pe_op op_cat (pe_call G__law_record (hr.mono (by omega)) (by rfl) e.m__law_record e.k__law_record e.b__law_record .nil pass0 (pa_cons (pe_op op_cat (pe_lst (pa_cons pe_int pa_nil)) (pe_call G_write_number (hr.mono (by omega)) (by rfl) e.m_write_number e.k_write_number e.b_write_number .nil pass0 (pa_cons (pv 5) pa_nil))) pa_nil)) (pe_call G__law_record (hr.mono (by omega)) (by rfl) e.m__law_record e.k__law_record e.b__law_record .nil pass0 (pa_cons (pv 12) pa_nil))) (pe_call G__law_record (hr.mono (by omega)) (by rfl) e.m__law_record e.k__law_record e.b__law_record .nil pass0 (pa_cons (pe_lst (pa_cons pe_int pa_nil)) pa_nil))))
    (Evl.pss_cut (ps_if (pt_not (pt_val (pe_call G__law_same (hr.mono (by omega)) (by rfl) e.m__law_same e.k__law_same e.b__law_same .nil pass0 (pa_cons (pe_call G_log_start (hr.mono (by omega)) (by rfl) e.m_log_start e.k_log_start e.b_log_start .nil pass0 (pa_cons (pv 5) (pa_cons (pe_ix (ix_listK (K := K)) (pv 6) (pe_un un_neg pe_int) (fun _ _ => rfl)) pa_nil))) (pa_cons (pv 12) pa_nil))))) (pss_one (ps_ret pe_non)) pss_nil)
    (pss_cons (ps_for PassesOwn.never rfl (pi_listK (K := K) (pe_slice (sl_listK (K := K)) (pv 2) (po_some (pv 4)) po_none)) (pg_name (i := 9) sc__law_file.nd rfl (Or.inl rfl)) (pss_cons (ps_set (i := 14) sc__law_file.nd rfl (Or.inl rfl) (pe_call G__law_record (hr.mono (by omega)) (by rfl) e.m__law_record e.k__law_record e.b__law_record .nil pass0 (pa_cons (pe_op op_cat (pe_lst (pa_cons pe_int pa_nil)) (pe_call G_write_triples (hr.mono (by omega)) (by rfl) e.m_write_triples e.k_write_triples e.b_write_triples .nil pass0 (pa_cons (pe_callTy (call_listLK (K := K)) (by rfl) e.n_list (by decide +kernel) (pa_cons (pv 9) pa_nil)) pa_nil))) pa_nil)))
    (pss_cons (ps_if (pt_not (pt_val (pe_call G__law_same (hr.mono (by omega)) (by rfl) e.m__law_same e.k__law_same e.b__law_same .nil pass0 (pa_cons (pe_call G_write_note (hr.mono (by omega)) (by rfl) e.m_write_note e.k_write_note e.b_write_note .nil pass0 (pa_cons (pe_callTy (call_listLK (K := K)) (by rfl) e.n_list (by decide +kernel) (pa_cons (pv 9) pa_nil)) pa_nil)) (pa_cons (pv 14) pa_nil))))) (pss_one (ps_ret pe_non)) pss_nil)
    (pss_one (ps_set (i := 12) sc__law_file.nd rfl (Or.inl rfl) (pe_op op_cat (pv 12) (pv 14)))))))
    (pss_cons (ps_set (i := 15) sc__law_file.nd rfl (Or.inl rfl) (pe_call G__law_next (hr.mono (by omega)) (by rfl) e.m__law_next e.k__law_next e.b__law_next .nil pass0 (pa_cons (pv 0) (pa_cons pe_int pa_nil))))
    (Evl.pss_cut (ps_if (pt_cmpR op_lt (pv 15) pe_int (nomark _)) (pss_one (ps_set (i := 12) sc__law_file.nd rfl (Or.inl rfl) (pe_slice (sl_listK (K := K)) (pv 12) po_none (po_some (pe_call G__law_next (hr.mono (by omega)) (by rfl) e.m__law_next e.k__law_next e.b__law_next .nil pass0 (pa_cons (pv 0) (pa_cons (pe_op op_add (pe_callB (call_lenLK (K := K)) (by rfl) e.n_len (by decide +kernel) (pa_cons (pv 12) pa_nil)) pe_int) pa_nil))))))) (pss_one (ps_if (pt_cmpR op_eq (pv 15) pe_int (nomark _)) (pss_cons (ps_set (i := 10) sc__law_file.nd rfl (Or.inl rfl) (pe_call G__law_next (hr.mono (by omega)) (by rfl) e.m__law_next e.k__law_next e.b__law_next .nil pass0 (pa_cons (pv 0) (pa_cons (pe_callB (call_lenLK (K := K)) (by rfl) e.n_len (by decide +kernel) (pa_cons (pv 12) pa_nil)) pa_nil))))
    (pss_one (ps_asg (pe_op op_mod (pe_op op_add (pe_op op_add (pe_ix (ix_listK (K := K)) (pv 12) (pv 10) (fun _ _ => rfl)) pe_int) (pe_call G__law_next (hr.mono (by omega)) (by rfl) e.m__law_next e.k__law_next e.b__law_next .nil pass0 (pa_cons (pv 0) (pa_cons pe_int pa_nil)))) pe_int) (pg_sub (pv 12) (pv 10) set_list)))) (pss_one (ps_if (pt_cmpR op_lt (pv 15) pe_int (nomark _)) (pss_cons (ps_set (i := 12) sc__law_file.nd rfl (Or.inl rfl) (pe_op op_cat (pv 12) (pe_call G__law_strange (hr.mono (by omega)) (by rfl) e.m__law_strange e.k__law_strange e.b__law_strange .nil pass0 (pa_cons (pv 0) (pa_cons (pv 1) pa_nil)))))
    (pss_one (ps_if (pt_cmpR op_eq (pe_call G__law_next (hr.mono (by omega)) (by rfl) e.m__law_next e.k__law_next e.b__law_next .nil pass0 (pa_cons (pv 0) (pa_cons pe_int pa_nil))) pe_int (nomark _)) (pss_one (ps_set (i := 12) sc__law_file.nd rfl (Or.inl rfl) (pe_op op_cat (pv 12) (pe_call G__law_record (hr.mono (by omega)) (by rfl) e.m__law_record e.k__law_record e.b__law_record .nil pass0 (pa_cons (pe_op op_cat (pe_lst (pa_cons pe_int pa_nil)) (pe_call G_write_triples (hr.mono (by omega)) (by rfl) e.m_write_triples e.k_write_triples e.b_write_triples .nil pass0 (pa_cons (pe_call G__law_group (hr.mono (by omega)) (by rfl) e.m__law_group e.k__law_group e.b__law_group .nil pass0 (pa_cons (pv 0) (pa_cons (pv 1) pa_nil))) pa_nil))) pa_nil))))) pss_nil))) (pss_one (ps_if (pt_cmpR op_eq (pv 15) pe_int (nomark _)) (pss_one (ps_set (i := 12) sc__law_file.nd rfl (Or.inl rfl) (pe_ix (ix_listK (K := K)) (pe_lst (pa_cons (pe_slice (sl_listK (K := K)) (pv 12) (po_some pe_int) po_none) (pa_cons (pe_lst pa_nil) (pa_cons (pe_slice (sl_listK (K := K)) (pv 12) po_none (po_some (pe_op op_sub (pe_callB (call_lenLK (K := K)) (by rfl) e.n_len (by decide +kernel) (pa_cons (pv 12) pa_nil)) (pe_op op_fdiv (pe_callB (call_lenLK (K := K)) (by rfl) e.n_len (by decide +kernel) (pa_cons (pv 12) pa_nil)) pe_int)))) (pa_cons (pe_lst (pa_cons pe_int (pa_cons pe_int (pa_cons pe_int (pa_cons pe_int pa_nil))))) (pa_cons (pe_op op_cat (pv 12) (pe_lst (pa_cons pe_int (pa_cons pe_int (pa_cons pe_int pa_nil))))) pa_nil)))))) (pe_call G__law_next (hr.mono (by omega)) (by rfl) e.m__law_next e.k__law_next e.b__law_next .nil pass0 (pa_cons (pv 0) (pa_cons pe_int pa_nil))) (fun _ _ => rfl)))) pss_nil)))))))
    (pss_one (ps_ret (pv 12)))))))))))))))))), ?_⟩
    refine enter (st__law_file _) ?_
    walk_at "i"
    walk_at "r"
    intro z0 H1 nz k1 hz0
    walk_at "r"
    refine w_rep hz0 (by decide) (by rw [PySem.sizeLine_eq]; decide) fun cn H2 nc k2 hcn => ?_
    have hcn2 : H2 cn = some (.lst (kV (List.replicate 8 0))) := hcn
    have D2 := (hD.more k1).more k2
    have nca := (hD.more k1).fre nc
    have k12 := k1.trans k2
    have nc0 : H cn = none := k1.free nc (by simp)
    clear hz0 hcn k1 k2 nz
    walk_at "r"
    refine ⟨a, c, ns, 8, rfl, D2, by decide, by decide, fun x H3 x0 x1 k3 D3 => ?_⟩
    have hcn3 := k3.get hcn2 (by simp [nca.1])
    have k13 : Keep [a] H H3 := k12.any.trans k3
    clear hcn2 k12 k3
    walk_at "r"
    refine lcR1 (by omega) (by omega) (fun G i H' => Keep [a, cn] H3 H' ∧ Drw a c ns H' ∧ ∃ us ks gs r, H' G = some (.lst us) ∧ H' cn = some (.lst (kV ks)) ∧ ks.length = 8 ∧ (∀ n ∈ ks, n ≤ 3 * i) ∧ GrpV [a, cn, G] H' us gs ∧ gs.length = i ∧ (∀ ts ∈ gs, ts.length ≤ 3 ∧ ∀ t ∈ ts, smt t) ∧ fg r0 gs = some r ∧ lens r = ks)
      (fun G H4 nG k4 hG => ⟨k4.any, D3.more k4, [], List.replicate 8 0, [], r0, hG, k4.get hcn3 (by simp), by simp, by simp, .nil, rfl, by simp, rfl, by simp [lens, r0]⟩) ?_ ?_
    · rintro G i H4 nG hi ⟨k4, D4, us, ks, gs, r, hG, hcn4, h8, hM, hgv, hgl, hgs, hfg, hlens⟩
      have nGa := D3.fre nG
      have nGc : G ≠ cn := Ne.symm (ne_of_none hcn3 nG)
      have hul : us.length = gs.length := Paired.length hgv
      walk_at "i"
      walk_at "r"
      refine ⟨a, c, ns, cn, ks, 3 * i, rfl, D4, hcn4, h8, hM, by omega, nca.1, nca.2, fun g us' ts ks' H5 ng k5 D5 hcn5 hg5 hT5 hsm htl hk8 hkM hadv => ?_⟩
      have hG5 := k5.get hG (by simp [nGa.1, nGc])
      obtain ⟨r', hr', hlr'⟩ := hadv r hlens
      walk_at "r"
      intro H6 k6 h6
      have ngG : g ≠ G := Ne.symm (ne_of_none hG ng)
      have ngc : g ≠ cn := Ne.symm (ne_of_none hcn4 ng)
      have nga : g ≠ a := (D4.fre ng).1
      refine ⟨(k4.trans k5).mut nG k6, D5.mut k6 nGa, us ++ [.ref g], ks', gs ++ [ts], r', h6, k6.get hcn5 (by simp [Ne.symm nGc]), hk8, fun n hn => by have := hkM n hn; omega, ?_, by rw [List.length_append, hgl]; rfl, ?_, by rw [fg_snoc, hfg]; exact hr', hlr'⟩
      · exact Paired.snoc ((GrpV.keep hgv k5 (by simp)).keep k6 (by simp)) ⟨g, us', rfl, by simp [ngG, ngc, nga], k6.get hg5 (by simp [ngG]), vTs.keep hT5 k6⟩
      · intro z hz
        rcases List.mem_append.mp hz with hz | hz
        · exact hgs z hz
        · rw [List.mem_singleton] at hz; rw [hz]; exact ⟨htl, hsm⟩
    rintro G H4 nG ⟨k4, D4, us, ks, gs, rN, hG, hcn4, h8, hM, hgv, hgl, hgs, hfg, hlens⟩
    have nGa := D3.fre nG
    have nGc : G ≠ cn := Ne.symm (ne_of_none hcn3 nG)
    have hul : us.length = gs.length := Paired.length hgv
    have hgl7 : gs.length ≤ 7 := by omega
    have nG0 : H G = none := k13.free nG (by simp [nGa.1])
    have hMs : ∀ n ∈ ks, n ≤ 21 := fun n hn => by have := hM n hn; omega
    have k14 : Keep [a] H H4 := by
      have := k13.mono (S' := [a, cn]) (by simp)
      have h := this.trans k4
      refine ⟨fun b hb => ?_, h.2⟩
      by_cases hbc : b = cn
      · subst hbc; exact .inl nc0
      · exact h.1 b (by simp only [List.mem_cons, List.not_mem_nil, or_false] at hb ⊢; rintro (z | z); exact hb z; exact hbc z)
    clear hcn3 k13 k4 D3 D2 hD hM hlens
    walk_at "r"
    refine ⟨a, c, ns, _, rfl, D4, by omega, by omega, fun y H5 y0 y1 k5 D5 => ?_⟩
    obtain ⟨dn, rfl⟩ := Int.eq_ofNat_of_zero_le y0
    have hdn : dn ≤ gs.length := by omega
    have hG5 := k5.get hG (by simp [nGa.1])
    have hcn5 := k5.get hcn4 (by simp [nca.1])
    have hgv5 := hgv.keep k5 (by simp)
    have k15 := k14.trans k5
    clear hG hcn4 hgv k14 k5
    walk_at "r"
    intro tl H6 ntl k6 htl
    walk_at "r"
    refine ⟨a, c, ns, 4, rfl, D5.more k6, by decide, by decide, fun v H7 v0 v1 k7 D7 => ?_⟩
    have htl7 := k7.get htl (by simp [(D5.fre ntl).1])
    have hm : ∃ tn : Nat, atI [V.int 1, V.int 2, V.int 2, V.int 300] v = some (.int (tn : Int)) ∧ tn ≤ 300 := by
      have : v = 0 ∨ v = 1 ∨ v = 2 ∨ v = 3 := by omega
      rcases this with rfl | rfl | rfl | rfl
      · exact ⟨1, rfl, by decide⟩
      · exact ⟨2, rfl, by decide⟩
      · exact ⟨2, rfl, by decide⟩
      · exact ⟨300, rfl, by decide⟩
    obtain ⟨tn, hat, htn⟩ := hm
    have k57 : Keep [a] H5 H7 := k6.any.trans k7
    have hG7 := k57.get hG5 (by simp [nGa.1])
    have hcn7 := k57.get hcn5 (by simp [nca.1])
    have hgv7 := hgv5.keep k57 (by simp)
    have k17 := k15.trans k57
    clear hG5 hcn5 hgv5 k15 k57 k6 k7 htl
    walk_at "r"
    clear htl7 hat
    intro b0 dxb H8 nb k8 hb8
    refine ⟨b0, dxb, rfl, hb8, fun dd H9 k9 hb9 hD9 => ⟨rfl, ?_⟩⟩
    have k79 : Keep [] H7 H9 := k8.mut nb k9
    have hB9 : Ba A H9 b0 (0, r0) := by
      have ndd : dd ≠ b0 := by obtain ⟨_, _, _, _, h⟩ := hD9; exact Ne.symm (ne_of_none hb8 h)
      exact ⟨dxb, dd, hb9, hD9.any, rfl, ndd⟩
    have hG9 := k79.get hG7 (by simp)
    have hcn9 := k79.get hcn7 (by simp)
    have hgv9 := hgv7.keep k79 (by simp)
    have D9 := D7.more k79
    have k19 := k17.trans k79.any
    clear hG7 hcn7 hgv7 k17 k79 k8 k9 hb8 hb9 hD9 D7 D5 D4
    walk_at "r"
    intro B H10 nB k10 hB10
    have hG10 := k10.get hG9 (by simp)
    have D10 := D9.more k10
    walk_at "r"
    refine lcR1 (by omega) (by omega) (fun D i H' => Keep [] H10 H' ∧ RowsN H10 H' D (List.replicate i [])) (fun D H2 nD k2 hD => ⟨k2, RowsN.start nD hD⟩) ?_ ?_
    · rintro D i H2 nD hi ⟨k2, hR⟩
      obtain ⟨us, hD⟩ : ∃ us, H2 D = some (.lst us) := by obtain ⟨ts, h, _⟩ := hR; exact ⟨_, h⟩
      have hul := hR.len hD
      rw [List.length_replicate] at hul
      walk_at "i"
      walk_at "r"
      intro l H3 nl k3 h3
      have hD3 := k3.get hD (by simp)
      refine w_rApp hD3 (by rw [PySem.sizeLine_eq]; omega) fun H4 k4 h4 => ?_
      refine ⟨(k2.trans k3).mut nD k4, ?_⟩
      rw [List.replicate_succ']
      exact RowsN.push hR k2 hD nl k3 ⟨[], h3, .nil⟩ k4 h4
    rintro R H11 nR ⟨k11, hR⟩
    have hR : RowsN H10 H11 R r0 := hR
    obtain ⟨tsR, g1, g2, g3, g4⟩ := hR
    have hRT : RowsT tsR H11 R r0 := ⟨g1, g2, g3⟩
    have nU : ∀ x ∈ B :: R :: tsR, H9 x = none := fun x hx => by
      rcases List.mem_cons.mp hx with rfl | hx
      · exact nB
      · exact k10.free (g4 x hx) (by simp)
    have hBR : B ∉ R :: tsR := fun z => by have := g4 B z; rw [hB10] at this; cases this
    have k911 := k10.trans k11
    have hBa11 := (BaN.onlyL hB9 nU).mono k911
    have hgv11 := (hgv9.fresh nU).keep k911 (by simp)
    have hG11 := k911.get hG9 (by simp)
    have hcn11 := k911.get hcn9 (by simp)
    have D11 := D9.more k911
    have hB11 := k11.get hB10 (by simp)
    have k111 := k19.trans k911.any
    have nU0 : ∀ x ∈ B :: R :: tsR, H x = none := fun x hx => k19.free (nU x hx) (by
      intro z
      rw [List.mem_singleton] at z
      subst z
      obtain ⟨_, _, _, _, h, _⟩ := D9
      rw [nU _ hx] at h; cases h)
    have nUG : G ∉ B :: R :: tsR := fun z => by have := nU _ z; rw [hG9] at this; cases this
    have nUc : cn ∉ B :: R :: tsR := fun z => by have := nU _ z; rw [hcn9] at this; cases this
    have nUa : a ∉ B :: R :: tsR := fun z => by
      obtain ⟨_, _, _, _, h, _⟩ := D9
      rw [nU _ z] at h; cases h
    have nUcc : c ∉ B :: R :: tsR := fun z => by
      obtain ⟨_, _, _, _, _, h⟩ := D9
      rw [nU _ z] at h; cases h
    have htR8 : tsR.length = 8 := by rw [Paired.length g3]; rfl
    clear g1 g2 g3 g4 hB9 hgv9 hG9 hcn9 D9 D10 hB10 hG10 k10 k11 k19 k911 nB nR nb ntl nc nG
    have hUs : ∀ x ∈ B :: R :: tsR, H11 x ≠ none := fun x hx => by
      rcases List.mem_cons.mp hx with rfl | hx
      · rw [hB11]; simp
      · obtain ⟨us, h⟩ := hRT.ex x hx
        rw [h]; simp
    walk_at "r"
    rw [cutV_to]
    intro sl H12 nsl k12 hsl
    have nslU : sl ∉ B :: R :: tsR := fun z => hUs sl z nsl
    have hRT12 := hRT.keep k12 (by simp)
    have hBa12 := hBa11.mono k12
    have hgv12 := hgv11.keep k12 (by simp)
    have hG12 := k12.get hG11 (by simp)
    have hcn12 := k12.get hcn11 (by simp)
    have D12 := D11.more k12
    have hB12 := k12.get hB11 (by simp)
    have k112 := k111.trans k12.any
    have hUs12 : ∀ x ∈ B :: R :: tsR, H12 x ≠ none := fun x hx z => by
      rcases List.mem_cons.mp hx with rfl | hx
      · rw [hB12] at z; cases z
      · obtain ⟨us, h⟩ := hRT12.ex x hx
        rw [h] at z; cases z
    clear hRT hBa11 hgv11 hG11 hcn11 D11 hB11 k111 k12 hUs nU
    walk_at "r"
    refine forL (SqL.of hsl) (fun i σ H' => ∃ (v8 v9 v10 v11 : Option V) (bv : List V) (bss : List Bs) (us0 : List V) (vl : V) (bl0 : List Bs) (r : Rws), σ = [some (.ref a), some (.ref cn), some (.ref G), none, some (.int (dn : Int)), some (.int (tn : Int)), some (.ref B), some (.ref R), v8, v9, v10, v11, none, none, none, none] ∧
        Keep (B :: R :: tsR) H12 H' ∧ H' B = some (.lst bv) ∧ Paired (fun v bs => ∃ b, v = V.ref b ∧ BaN (onlyL (B :: R :: tsR)) A H' b bs) bv bss ∧ bss[0]? = some (0, r0) ∧ bv = us0 ++ [vl] ∧ bss = bl0 ++ [(i, r)] ∧ RowsT tsR H' R r ∧ fg r0 (gs.take i) = some r ∧ okRows r (3 * i) ∧ r.length = 8 ∧ bv.length = i + 1)
      ⟨_, _, _, _, _, [(0, r0)], [], _, [], r0, rfl, Keep.refl, hB12, Paired.cons ⟨b0, rfl, hBa12⟩ Paired.nil, rfl, rfl, rfl, hRT12, rfl, fun row hrow => by unfold r0 at hrow; rw [List.eq_of_mem_replicate hrow]; simp, rfl, rfl⟩ (fun i σ H' _ h => ?_) ?_ ?_
    · obtain ⟨_, _, _, _, _, _, _, _, _, _, _, k, _⟩ := h
      exact SqL.of (k.get hsl nslU)
    · rintro i x σ H13 hx ⟨v8, v9, v10, v11, bv, bss, us0, vl, bl0, r, rfl, k13, hB13, hP13, hb0s, rfl, rfl, hRT13, hfgi, hok, hr8, hbl⟩
      rw [List.getElem?_take] at hx
      split at hx
      rotate_left
      · cases hx
      rename_i hid
      obtain ⟨tsi, htsi, g, ws, rfl, ngS, hg, hT⟩ := pd_get hgv12 hx
      have ngU : g ∉ B :: R :: tsR := fun z => ngS (List.mem_append_left _ z)
      have hg13 := k13.get hg ngU
      have hT13 := vTs.keep hT k13
      obtain ⟨htl3, hsm⟩ := hgs tsi (List.mem_of_getElem? htsi)
      obtain ⟨r', hnx, hfgi'⟩ := fg_next hfg hfgi htsi
      have hok' : okRows r' (3 * (i + 1)) := (okRows_nx hnx hsm hok).mono (by omega)
      obtain ⟨b, rfl, hbN⟩ := pd_last hP13
      have hbA := hbN.any
      have hbA' := hbA
      obtain ⟨dxb', db', hbb, _⟩ := hbA'
      have hlk : (baF i db').lookup ("grown" : Str) = none := lkBn (by decide +kernel) (by decide +kernel)
      have hlast := atI_last us0 (V.ref b)
      have hwl : ws.length = tsi.length := Paired.length hT
      walk_at "r"
      intro L H14 nL k14 hL
      have hB14 := k14.get hB13 (by simp)
      walk_at "r"
      refine ⟨b, L, (i, r), ws, tsi, r', rfl, hbA.mono k14, hr8, hL, vTs.keep hT13 k14, hnx, fun row hrow => by have := (hok' row hrow).1; omega, fun c' H15 k15 hc => ?_⟩
      have k1315 := k14.trans k15
      have hB15 := k15.get hB14 (by simp)
      have hU14 : ∀ x ∈ B :: R :: tsR, H14 x ≠ none := fun x hx z => by
        rcases List.mem_cons.mp hx with rfl | hx
        · rw [hB14] at z; cases z
        · obtain ⟨us, h⟩ := hRT13.ex x hx
          rw [k14.get h (by simp)] at z; cases z
      have hcN := BaN.onlyL' hc hU14
      have hP15 := hBaK hP13 k1315 (by simp)
      have hRT15 := hRT13.keep k1315 (by simp)
      have hg15 := k1315.get hg13 (by simp)
      have hT15 := vTs.keep hT13 k1315
      have k1215 : Keep (B :: R :: tsR) H12 H15 := k13.trans k1315.any
      clear hbb hL hB13 hB14 hP13 hRT13 hg13 hT13 hbN hbA hc k13 k14 k15 k1315 hlast
      walk_at "r"
      intro H16 k16 h16
      have hP16 : Paired (fun v bs => ∃ b, v = V.ref b ∧ BaN (onlyL (B :: R :: tsR)) A H16 b bs) (us0 ++ [V.ref b] ++ [V.ref c']) (bl0 ++ [(i, r)] ++ [(i + 1, r')]) := Paired.snoc (hBaK hP15 k16 (by simp)) ⟨c', rfl, hcN.keepN k16 (onlyL_S (by simp))⟩
      have ngB : g ≠ B := fun z => ngU (by simp [z])
      have hg16 := k16.get hg15 (by simp [ngB])
      have hT16 := vTs.keep hT15 k16
      have hRT16 : RowsT tsR H16 R r := hRT15.keep k16 (fun x hx z => by rw [List.mem_singleton] at z; subst z; exact hBR hx)
      have k1216 : Keep (B :: R :: tsR) H12 H16 := k1215.trans (k16.mono (by simp))
      clear hP15 hg15 hT15 hRT15 hB15 hcN k1215
      walk_at "r"
      refine forL (SqL.of hg16) (fun j σ H' => ∃ (v8 v10 v11 : Option V) (rk : Rws), σ = [some (.ref a), some (.ref cn), some (.ref G), none, some (.int (dn : Int)), some (.int (tn : Int)), some (.ref B), some (.ref R), v8, some (.ref g), v10, v11, none, none, none, none] ∧
          Keep tsR H16 H' ∧ RowsT tsR H' R rk ∧ nxs r (tsi.take j) = some rk)
        ⟨_, _, _, r, rfl, Keep.refl, hRT16, rfl⟩ (fun j σ H' _ h => ?_) ?_ ?_
      · obtain ⟨_, _, _, _, _, k, _⟩ := h
        exact SqL.of (k.get hg16 (fun z => ngU (by simp [z])))
      · rintro j y σ H17 hy ⟨v8, v10, v11, rk, rfl, k17, hRk, hnxj⟩
        obtain ⟨tq, htq, tb, bv', rfl, htb, hdd⟩ := pd_get hT16 hy
        have htb17 := k17.2 _ _ htb
        have hdd17 := vD.keep hdd k17
        have hst := nxs_step hnxj htq
        have hrk8 : rk.length = 8 := by rw [nxs_len hnxj, hr8]
        have hnx1 : nx1 rk tq ≠ none := fun z => by
          have := nxs_none (rows := r) (ts := tsi) (i := j + 1) (by rw [hst, z])
          rw [hnx] at this; cases this
        have hcond : tq.r < 8 ∧ tq.p = (rk.getD tq.r []).length + 1 := by
          by_cases z : tq.r < 8 ∧ tq.p = (rk.getD tq.r []).length + 1
          · exact z
          · exact absurd (nx1_no z) hnx1
        have hyes := nx1_yes hcond
        have hRk' := hRk
        obtain ⟨g1, g2, g3⟩ := hRk'
        obtain ⟨t, ht⟩ : ∃ t, tsR[tq.r]? = some t := ⟨_, List.getElem?_eq_getElem (by rw [htR8]; exact hcond.1)⟩
        obtain ⟨row, hrow, ws', hws, hpw⟩ := pd_get g3 ht
        have hatr : atI (tsR.map V.ref) (tq.r : Int) = some (.ref t) := atI_nat (by rw [List.getElem?_map, ht]; rfl)
        have hgd : rk.getD tq.r [] = row := by rw [List.getD_eq_getElem?_getD, hrow]; rfl
        have hwl' := Paired.length hpw
        have hwb : ws'.length ≤ 1000 := by
          have := hcond.2
          rw [hgd] at this
          have := (hsm tq (List.mem_of_getElem? htq)).2.1
          omega
        clear htb hdd hg16 hRT16 h16
        walk_at "r"
        intro H18 k18 h18
        refine ⟨_, _, _, rk.set tq.r (rk.getD tq.r [] ++ [tq.d]), rfl, k17.trans (k18.mono (by intro x hx; rw [List.mem_singleton] at hx; rw [hx]; exact List.mem_of_getElem? ht)), by rw [hgd]; exact hRk.grow ht hrow hws hdd17 k18 h18, by rw [hst, hyes]⟩
      · rintro σ H17 ⟨v8, v10, v11, rk, rfl, k17, hRk, hnxj⟩
        rw [hwl, List.take_length, hnx] at hnxj
        cases hnxj
        have hBt : B ∉ tsR := fun z => hBR (by simp [z])
        refine ⟨_, _, _, _, us0 ++ [V.ref b] ++ [V.ref c'], bl0 ++ [(i, r)] ++ [(i + 1, r')], us0 ++ [V.ref b], V.ref c', bl0 ++ [(i, r)], r', rfl, k1216.trans (k17.mono (by intro x hx; simp [hx])), k17.get h16 hBt, hBaK hP16 k17 (by intro x hx; simp [hx]), ?_, rfl, rfl, hRk, hfgi', hok', by rw [nxs_len hnx, hr8], by rw [List.length_append, hbl]; rfl⟩
        rw [List.getElem?_append_left (by simp)]
        exact hb0s
    rintro σ H13 ⟨v8, v9, v10, v11, bv, bss, us0, vl, bl0, r, rfl, k13, hB13, hP13, hb0s, rfl, rfl, hRT13, hfgi, hok, hr8, hbl⟩
    rw [List.length_take, Nat.min_eq_left (by omega)] at hP13 hb0s hfgi hok hbl
    have D13 := D12.keep k13 nUa nUcc
    have hcn13 := k13.get hcn12 nUc
    have hG13 := k13.get hG12 nUG
    have hgv13 := hgv12.keep k13 (fun x hx => List.mem_append_left _ hx)
    have k113 := k112.mutL nU0 k13
    have hok100 : okRows r 100 := hok.mono (by omega)
    have hwr := wrow_small hok100 (by decide) hr8
    obtain ⟨b, rfl, hbN⟩ := pd_last hP13
    have hbA := hbN.any
    obtain ⟨v00, hv00, b00, rfl, hb00N⟩ := pd_get' hP13 hb0s
    have hb00 := hb00N.any
    have hat0 : atI (us0 ++ [V.ref b]) 0 = some (.ref b00) := atI_nat (j := 0) hv00
    have hatl := atI_last us0 (V.ref b)
    have hdn2 : dn ≤ 7 := by omega
    clear hbN hb00N hv00 hP13 hb0s D12 hcn12 hG12 hgv12 hB12 hBa12 hRT12 k112 k13 hsl hUs12 hok
    walk_at "r"
    intro z1 H14 n14 k14 hz1
    walk_at "r"
    refine ⟨dn, rfl, lt60' (by omega), fun z2 H15 n15 k15 hz2 => ?_⟩
    have hz115 := k15.get hz1 (by simp)
    have hwdn := wn_len 0 dn (by omega)
    walk_at "r"
    intro D0 H16 n16 k16 hD0
    have k1316 := k14.trans (k15.trans k16)
    have hRT16 := hRT13.keep k1316 (by simp)
    clear hz1 hz2 hz115 k14 k15 k16
    walk_at "r"
    refine forL (SqL.of hRT16.1) (fun i σ H' => ∃ (D : Addr) (v11 v13 : Option V), σ = [some (.ref a), some (.ref cn), some (.ref G), none, some (.int (dn : Int)), some (.int (tn : Int)), some (.ref B), some (.ref R), v8, v9, v10, v11, some (.ref D), v13, none, none] ∧ Keep [] H16 H' ∧ H' D = some (.lst (((3 : Int) :: (wn dn ++ ((r.take i).map wrow).flatten)).map V.int)))
      ⟨D0, _, _, rfl, Keep.refl, by rw [hD0]; simp⟩ (fun i σ H' _ h => ?_) ?_ ?_
    · obtain ⟨_, _, _, _, k, _⟩ := h
      exact SqL.of (k.get hRT16.1 (by simp))
    · rintro i x σ H17 hx ⟨D, v11, v13, rfl, k17, hD⟩
      rw [List.getElem?_map, Option.map_eq_some_iff] at hx
      obtain ⟨t, ht, rfl⟩ := hx
      obtain ⟨row, hrow, ws, hws, hpw⟩ := pd_get hRT16.2.2 ht
      have hws17 := k17.get hws (by simp)
      have hwl := Paired.length hpw
      obtain ⟨hrl, hrs⟩ := hok100 row (List.mem_of_getElem? hrow)
      have hb1 : ((r.take i).map wrow).flatten.length ≤ 33000 := by
        have := take_flat_len (r.map wrow) i
        rw [← List.map_take] at this
        exact Nat.le_trans this hwr
      have hb2 := wn_len 0 row.length (by omega)
      have hb3 : ∀ j, ((row.take j).map wd).flatten.length ≤ 4000 := fun j => by
        have h1 := take_flat_len (row.map wd) j
        rw [← List.map_take] at h1
        have h2 := flat_le (xs := row.map wd) (n := 40) (fun x hx => by obtain ⟨d, hd, rfl⟩ := List.mem_map.mp hx; exact (hrs d hd).2.1)
        rw [List.length_map] at h2
        omega
      clear hRT16 hD0 hRT13
      walk_at "r"
      refine ⟨row.length, by rw [hwl]; rfl, lt60' (by omega), fun z2 H18 n18 k18 hz2 => ?_⟩
      have hD18 := k18.get hD (by simp)
      walk_at "r"
      intro D2 H19 n19 k19 hD2
      have hws19 := (k18.trans k19).get hws17 (by simp)
      clear hz2 hD18 hD
      walk_at "r"
      refine forL (SqL.of hws19) (fun j σ H' => ∃ (D : Addr) (v11 : Option V), σ = [some (.ref a), some (.ref cn), some (.ref G), none, some (.int (dn : Int)), some (.int (tn : Int)), some (.ref B), some (.ref R), v8, v9, v10, v11, some (.ref D), some (.ref t), none, none] ∧ Keep [] H19 H' ∧ H' D = some (.lst (((3 : Int) :: (wn dn ++ ((r.take i).map wrow).flatten ++ wn row.length ++ ((row.take j).map wd).flatten)).map V.int)))
        ⟨D2, _, rfl, Keep.refl, by rw [hD2]; simp⟩ (fun i σ H' _ h => ?_) ?_ ?_
      · obtain ⟨_, _, _, k, _⟩ := h
        exact SqL.of (k.get hws19 (by simp))
      · rintro j y σ H20 hy ⟨D, v11, rfl, k20, hD⟩
        obtain ⟨dd, hdd, hvd⟩ := pd_get hpw hy
        have hvd20 := vD.keep hvd (k17.trans (k18.trans (k19.trans k20)))
        have hsd := hrs dd (List.mem_of_getElem? hdd)
        have hdl := hsd.2.1
        have e1 : ((row.take (j + 1)).map wd).flatten = ((row.take j).map wd).flatten ++ wd dd := by rw [List.take_add_one, hdd]; simp
        have hb3j := hb3 j
        have hsz : ((3 : Int) :: (wn dn ++ ((r.take i).map wrow).flatten ++ wn row.length ++ ((row.take j).map wd).flatten)).length + (wd dd).length ≤ 40000 := by simp only [List.length_cons, List.length_append]; omega
        walk_at "r"
        refine ⟨y, dd, rfl, hvd20, hsd.1, by omega, fun z2 H21 n21 k21 hz2 => ?_⟩
        have hD21 := k21.get hD (by simp)
        walk_at "r"
        intro D3 H22 n22 k22 hD3
        walk_at "r"
        exact ⟨D3, _, rfl, k20.trans (k21.trans k22), by rw [hD3, e1]; simp⟩
      · rintro σ H20 ⟨D, v11, rfl, k20, hD⟩
        rw [hwl, List.take_length] at hD
        refine ⟨D, _, _, rfl, k17.trans (k18.trans (k19.trans k20)), ?_⟩
        rw [hD, List.take_add_one, hrow]
        simp [wrow, wl]
    rintro σ H17 ⟨D, v11, v13, rfl, k17, hD⟩
    rw [List.length_map, htR8, List.take_of_length_le (by omega)] at hD
    have hD : H17 D = some (.lst (((3 : Int) :: wbs (dn, r)).map V.int)) := hD
    have hwbs : (wbs (dn, r)).length ≤ 33010 := by
      have e : (wbs (dn, r)).length = (wn dn).length + ((r.map wrow).flatten).length := by unfold wbs; rw [List.length_append]
      have : ((r.map wrow).flatten).length ≤ 33000 := hwr
      omega
    have k1317 := k1316.trans k17
    have k117 := k113.trans k1317.any
    have D17 := D13.more k1317
    have hcn17 := k1317.get hcn13 (by simp)
    have hG17 := k1317.get hG13 (by simp)
    have hgv17 := hgv13.keep k1317 (by simp)
    have hB17 := k1317.get hB13 (by simp)
    have hRT17 := hRT13.keep k1317 (by simp)
    have hbA17 := hbA.mono k1317
    have hb0017 := hb00.mono k1317
    clear D13 hcn13 hG13 hgv13 hB13 hRT13 hbA hb00 k1316 k1317 k17 k113 hRT16 hD0
    refine s_cut (fun σ' H' => ∃ v11 v13, σ' = [some (.ref a), some (.ref cn), some (.ref G), none, some (.int (dn : Int)), some (.int (tn : Int)), some (.ref B), some (.ref R), v8, v9, v10, v11, some (.ref D), v13, none, none] ∧ Keep [] H17 H') ?_ ?_
    · obtain ⟨dxb', db', hbb, hbb2⟩ := hbA17
      have hlk : (baF dn db').lookup ("data" : Str) = none := lkBn (by decide +kernel) (by decide +kernel)
      walk_at "r"
      refine ⟨b, (dn, r), rfl, ⟨dxb', db', hbb, hbb2⟩, hr8, fun v1 H18 k18 hv1 => ?_⟩
      have hRT18 := hRT17.keep k18 (by simp)
      clear hbb
      walk_at "r"
      refine lcL (SqL.of hRT18.1) (fun D' i H' => Keep [] H18 H' ∧ ∃ us, H' D' = some (.lst us) ∧ Paired (fun v row => vRow H' row v) us (r.take i)) (fun D' H2 nD k2 hD => ⟨k2, [], hD, by rw [List.take_zero]; exact .nil⟩) (fun D' i H' _ h => SqL.of (h.1.get hRT18.1 (by simp))) ?_ ?_
      · rintro D' i x H2 nD hx ⟨k2, us', hD', hda⟩
        rw [List.getElem?_map, Option.map_eq_some_iff] at hx
        obtain ⟨t, ht, rfl⟩ := hx
        obtain ⟨row, hrow, ws, hws, hp⟩ := pd_get hRT18.2.2 ht
        have hws2 := k2.get hws (by simp)
        have hil := (List.getElem?_eq_some_iff.mp ht).1
        have hul' := Paired.length hda
        rw [List.length_take] at hul'
        have hul8 : us'.length ≤ 8 := by omega
        walk_at "i"
        walk_at "r"
        intro tt H3 nt k3 ht3
        have hD3 := k3.get hD' (by simp)
        refine w_rApp hD3 (by rw [PySem.sizeLine_eq]; omega) fun H4 k4 h4' => ?_
        have k24 := k2.trans k3
        refine ⟨k24.mut nD k4, us' ++ [.ref tt], h4', ?_⟩
        rw [List.take_add_one, hrow]
        exact Paired.snoc (Paired.mapP hda fun _ _ h => (h.keep k3).keep k4) (vRow.keep ⟨tt, ws, rfl, ht3, Paired.mapP hp fun _ _ h => vD.keep h k24⟩ k4)
      rintro D' H19 nD ⟨k19, us', hD', hda⟩
      rw [List.length_map, htR8, List.take_of_length_le (by omega)] at hda
      walk_at "r"
      intro t2 H20 n20 k20 ht2
      walk_at "r"
      intro t3 H21 n21 k21 ht3
      have k1821 := k19.trans (k20.trans k21)
      have hB21 := (k18.trans k1821).get hB17 (by simp)
      have hb0021 := hb0017.mono (k18.trans k1821)
      have hwid : wid (pdBs (dn, r)) ≤ 16777216 := Nat.le_trans (wid_Bs (bs := (dn, r)) (N := 100) hr8 fun row hrow => ⟨(hok100 row hrow).1, fun d hd => by rw [wdD_sml ((hok100 row hrow).2 d hd)]; decide⟩) (by decide)
      have hda2 : Da H21 (pdBs (dn, r)) (.ref t3) := Da.tup ht3 (DaL.cons Da.int (DaL.one (Da.tup (k21.get ht2 (by simp)) (daL_pd (f := pdRow) (Val := fun row v => vRow H19 row v) (fun _ _ h => (vRow.keep h (k20.trans k21)).da) hda))))
      have hda1 := Da.mono k1821.same _ _ hv1
      clear hD' hda ht2 ht3 hRT18
      walk_at "r"
      refine ⟨v1, .ref t3, pdBs (dn, r), rfl, hda1, hda2, dep_Bs _, hwid, fun H22 k22 => ?_⟩
      have hB22 := k22.get hB21 (by simp)
      obtain ⟨dx0, d0, hb0c, hb0d⟩ := hb0021.mono k22
      have hlk0 : (baF 0 d0).lookup ("data" : Str) = none := lkBn (by decide +kernel) (by decide +kernel)
      have k1722 := k18.trans (k1821.trans k22)
      clear hda1 hda2 hv1 hB21 k18 k19 k20 k21 k22 k1821
      walk_at "r"
      refine ⟨b00, (0, r0), rfl, ⟨dx0, d0, hb0c, hb0d⟩, rfl, fun v2 H23 k23 hv2 => ?_⟩
      clear hb0c
      walk_at "r"
      intro e0 H24 n24 k24 he0
      walk_at "r"
      intro e1 H25 n25 k25 he1
      walk_at "r"
      refine w_repT (SqT.of he1) (List.cons_ne_nil _ _) (by decide) (by simp) fun e2 H26 n26 k26 he2 => ?_
      walk_at "r"
      intro e3 H27 n27 k27 he3
      walk_at "r"
      have k2327 := k24.trans (k25.trans (k26.trans k27))
      have hE : Da H27 (.tuple []) (.ref e0) := Da.tup ((k25.trans (k26.trans k27)).get he0 (by simp)) DaL.nil
      have hE8 : DaL H27 (r0.map pdRow) (List.replicate 8 [V.ref e0]).flatten := DaL.cons hE (DaL.cons hE (DaL.cons hE (DaL.cons hE (DaL.cons hE (DaL.cons hE (DaL.cons hE (DaL.one hE)))))))
      refine ⟨v2, .ref e3, pdBs (0, r0), rfl, Da.mono k2327.same _ _ hv2, Da.tup he3 (DaL.cons Da.int (DaL.one (Da.tup (k27.get he2 (by simp)) hE8))), dep_Bs _, by decide, fun H28 k28 => ?_⟩
      walk_at "r"
      exact ⟨_, _, rfl, k1722.trans (k23.trans (k2327.trans k28))⟩
    rintro σ' H18 ⟨v11, v13, rfl, k18⟩
    have hD18 := k18.get hD (by simp)
    have D18 := D17.more k18
    have hcn18 := k18.get hcn17 (by simp)
    have hG18 := k18.get hG17 (by simp)
    have hgv18 := hgv17.keep k18 (by simp)
    have hB18 := k18.get hB17 (by simp)
    have hbA18 := hbA17.mono k18
    have k118 := k117.trans k18.any
    clear hD D17 hcn17 hG17 hgv17 hB17 hbA17 hb0017 hRT17 k117 k18 hat0
    have l1 := wn_len3 (n := tn) (by omega)
    have r1 : (My.rec (1 :: wn tn)).length ≤ 20 := by
      rw [rec_len]
      have := wn_len 0 (1 :: wn tn).length (by rw [List.length_cons]; omega)
      rw [List.length_cons] at this ⊢
      omega
    have r2 : (My.rec (3 :: wbs (dn, r))).length ≤ 33020 := by
      rw [rec_len]
      have := wn_len3 (n := (3 :: wbs (dn, r)).length) (by rw [List.length_cons]; omega)
      rw [List.length_cons] at this ⊢
      omega
    have r3 : (My.rec [2]).length ≤ 20 := by
      rw [rec_len]
      have := wn_len 0 ([2] : List Int).length (by decide)
      simp only [List.length_cons, List.length_nil] at this ⊢
      omega
    walk_at "r"
    intro a1 H19 n19 k19 h1
    walk_at "r"
    refine ⟨tn, rfl, lt60' (by omega), fun a2 H20 n20 k20 h2 => ?_⟩
    have h12 := k20.get h1 (by simp)
    walk_at "r"
    intro a3 H21 n21 k21 h3
    have h3' : H21 a3 = some (.lst (((1 : Int) :: wn tn).map V.int)) := h3
    have hD21 := (k19.trans (k20.trans k21)).get hD18 (by simp)
    walk_at "r"
    refine ⟨a3, _, rfl, h3', by rw [List.length_cons]; omega, fun a4 H22 n22 k22 h4 => ?_⟩
    have hD22 := k22.get hD21 (by simp)
    clear h1 h2 h12 h3 h3' hD21
    walk_at "r"
    refine ⟨D, _, rfl, hD22, by rw [List.length_cons]; omega, fun a5 H23 n23 k23 h5 => ?_⟩
    have h45 := k23.get h4 (by simp)
    walk_at "r"
    intro a6 H24 n24 k24 h6
    walk_at "r"
    intro a7 H25 n25 k25 h7
    have h67 := k25.get h6 (by simp)
    clear h4 h5 h45 hD22 h6
    walk_at "r"
    refine ⟨a7, [2], rfl, h7, by decide, fun a8 H26 n26 k26 h8' => ?_⟩
    have h68 := k26.get h67 (by simp)
    walk_at "r"
    intro L0 H27 n27 k27 hL0
    have hL0 : H27 L0 = some (.lst ((wlog tn (dn, r)).map V.int)) := by rw [hL0]; simp [wlog]
    have k1827 := k19.trans (k20.trans (k21.trans (k22.trans (k23.trans (k24.trans (k25.trans (k26.trans k27)))))))
    have D27 := D18.more k1827
    have hcn27 := k1827.get hcn18 (by simp)
    have hG27 := k1827.get hG18 (by simp)
    have hgv27 := hgv18.keep k1827 (by simp)
    have hB27 := k1827.get hB18 (by simp)
    have hbA27 := hbA18.mono k1827
    have k127 := k118.trans k1827.any
    have hL0n : H L0 = none := (k118.trans ((k19.trans (k20.trans (k21.trans (k22.trans (k23.trans (k24.trans (k25.trans k26))))))).any)).free n27 (by
      intro z
      rw [List.mem_singleton] at z
      subst z
      obtain ⟨_, _, _, _, h, _⟩ := D18
      rw [(k19.trans (k20.trans (k21.trans (k22.trans (k23.trans (k24.trans (k25.trans k26))))))).get h (by simp)] at n27
      cases n27)
    have nL0 : L0 ≠ a ∧ L0 ≠ c ∧ L0 ≠ cn := by
      have kk := k19.trans (k20.trans (k21.trans (k22.trans (k23.trans (k24.trans (k25.trans k26))))))
      exact ⟨((D18.more kk).fre n27).1, ((D18.more kk).fre n27).2, Ne.symm (ne_of_none (kk.get hcn18 (by simp)) n27)⟩
    have hlog : (wlog tn (dn, r)).length ≤ 33100 := by unfold wlog; simp only [List.length_append]; omega
    have hlogp : 0 < (wlog tn (dn, r)).length := by unfold wlog; simp only [List.length_append, rec_len]; omega
    have hlby : by8 (wlog tn (dn, r)) := by
      unfold wlog
      refine by_app (by_app (by_rec (by_cons (by decide) by_wn)) (by_rec (by_cons (by decide) ?_))) (by_rec (by_cons (by decide) by_nil))
      exact by_app by_wn (by_flat (by_map fun row => by_wl (by_map by_wd)))
    clear h7 h67 h8' h68 k19 k20 k21 k22 k23 k24 k25 k26 k27 k1827 D18 hcn18 hG18 hgv18 hB18 hbA18 k118 hD18
    walk_at "r"
    refine s_cut (fun σ' H' => σ' = [some (.ref a), some (.ref cn), some (.ref G), none, some (.int (dn : Int)), some (.int (tn : Int)), some (.ref B), some (.ref R), v8, v9, v10, v11, some (.ref L0), v13, none, none] ∧ Keep [] H27 H') ?_ ?_
    · walk_at "i"
      walk_at "r"
      refine ⟨tn, b, (dn, r), rfl, by omega, hbA27, hr8, by show dn ≤ _; omega, fun row hrow => ⟨by have := (hok100 row hrow).1; omega, fun d hd => ((hok100 row hrow).2 d hd).1⟩, by omega, fun w1 H28 n28 k28 hw1 => ?_⟩
      walk_at "r"
      refine ⟨.ref w1, .ref L0, lD (wlog tn (dn, r)), rfl, Da.lst hw1 (DaL.ints _), Da.lst (k28.get hL0 (by simp)) (DaL.ints _), lD_dep _, lD_wid (by omega), fun H29 k29 => ?_⟩
      walk_at "r"
      exact k28.trans k29
    rintro σ' H28 ⟨rfl, k28⟩
    have hL28 := k28.get hL0 (by simp)
    have D28 := D27.more k28
    have hcn28 := k28.get hcn27 (by simp)
    have hG28 := k28.get hG27 (by simp)
    have hgv28 := hgv27.keep k28 (by simp)
    have k128 := k127.trans k28.any
    clear hL0 D27 hcn27 hG27 hgv27 hB27 hbA27 k127 k28 hatl
    generalize wlog tn (dn, r) = lg at hL28 hlog hlby hlogp
    walk_at "r"
    rw [cutV_from]
    intro sl2 H29 n29 k29 hsl2
    have hL29 := k29.get hL28 (by simp)
    have hcn29 := k29.get hcn28 (by simp)
    have D29 := D28.more k29
    have hgv29 := hgv28.keep k29 (by simp)
    have k129 := k128.trans k29.any
    clear hL28 hcn28 hG28 D28 hgv28 k128
    walk_at "r"
    refine forL (SqL.of hsl2) (fun i σ H' => ∃ (D : Addr) (v9 v14 : Option V) (es : List Int), σ = [some (.ref a), some (.ref cn), some (.ref G), none, some (.int (dn : Int)), some (.int (tn : Int)), some (.ref B), some (.ref R), v8, v9, v10, v11, some (.ref D), v13, v14, none] ∧ Keep [] H29 H' ∧ H' D = some (.lst (es.map V.int)) ∧ by8 es ∧ es.length ≤ 33100 + 7000 * i ∧ H D = none ∧ 0 < es.length ∧ D ≠ a ∧ D ≠ c ∧ D ≠ cn)
      ⟨L0, _, _, lg, rfl, Keep.refl, hL29, hlby, by omega, hL0n, hlogp, nL0.1, nL0.2.1, nL0.2.2⟩ (fun i σ H' _ h => ?_) ?_ ?_
    · obtain ⟨_, _, _, _, _, k, _⟩ := h
      exact SqL.of (k.get hsl2 (by simp))
    · rintro i x σ H30 hx ⟨D, v9, v14, es, rfl, k30, hD30, hes, hel, nD0, hep, nDa, nDcc, nDc⟩
      rw [List.getElem?_drop] at hx
      obtain ⟨tsi, htsi, g, ws, rfl, ngS, hg, hT⟩ := pd_get hgv29 hx
      have hil := (List.getElem?_eq_some_iff.mp htsi).1
      obtain ⟨htl3, hsm⟩ := hgs tsi (List.mem_of_getElem? htsi)
      have hg30 := k30.get hg (by simp)
      have hT30 := vTs.keep hT k30
      have hwts := wts_small hsm (by omega)
      clear hL29 hsl2
      walk_at "r"
      intro a1 H31 n31 k31 h1
      have hg31 := k31.get hg30 (by simp)
      walk_at "r"
      intro gl H32 n32 k32 hgl2
      walk_at "r"
      refine ⟨gl, ws, tsi, rfl, hgl2, vTs.keep hT30 (k31.trans k32), fun t ht => (hsm t ht).ok, by omega, by omega, fun a2 H33 n33 k33 h2 => ?_⟩
      have h13 := (k32.trans k33).get h1 (by simp)
      walk_at "r"
      intro a3 H34 n34 k34 h3
      have h3' : H34 a3 = some (.lst (((4 : Int) :: wts tsi).map V.int)) := h3
      clear h1 hg31 hgl2 h2 h13 h3
      walk_at "r"
      refine ⟨a3, _, rfl, h3', by rw [List.length_cons]; omega, fun nt H35 n35 k35 hnt => ?_⟩
      have k3035 := k31.trans (k32.trans (k33.trans (k34.trans k35)))
      have hD35 := k3035.get hD30 (by simp)
      have hg35 := k3035.get hg30 (by simp)
      clear h3'
      walk_at "r"
      intro gl2 H36 n36 k36 hgl3
      have hnt36 := k36.get hnt (by simp)
      walk_at "r"
      refine ⟨gl2, ws, tsi, rfl, hgl3, vTs.keep hT30 (k3035.trans k36), fun t ht => (hsm t ht).ok, by omega, by omega, fun w2 H37 n37 k37 hw2 => ?_⟩
      have hnt37 := k37.get hnt36 (by simp)
      have hrl : (wnote tsi).length ≤ 6010 := by
        unfold wnote
        rw [rec_len]
        have := wn_len3 (n := (4 :: wts tsi).length) (by rw [List.length_cons]; omega)
        rw [List.length_cons] at this ⊢
        omega
      walk_at "r"
      refine ⟨.ref w2, .ref nt, lD (wnote tsi), rfl, Da.lst hw2 (DaL.ints _), Da.lst hnt37 (DaL.ints _), lD_dep _, lD_wid (by omega), fun H38 k38 => ?_⟩
      have k3538 := k36.trans (k37.trans k38)
      have hD38 := k3538.get hD35 (by simp)
      have hnt38 : H38 nt = some (.lst ((wnote tsi).map V.int)) := k3538.get hnt (by simp)
      clear hgl3 hnt36 hw2 hnt37 hg35 hD35
      walk_at "r"
      intro D2 H39 n39 k39 hD2
      walk_at "r"
      have k3038 := k3035.trans k3538
      refine ⟨D2, _, _, es ++ wnote tsi, rfl, k30.trans (k3038.trans k39), by rw [hD2, List.map_append], by_app hes (by_rec (by_cons (by decide) by_wts)), by rw [List.length_append]; omega, ?_, by rw [List.length_append]; omega, ((D29.more (k30.trans k3038)).fre n39).1, ((D29.more (k30.trans k3038)).fre n39).2, Ne.symm (ne_of_none ((k30.trans k3038).get hcn29 (by simp)) n39)⟩
      refine (k129.trans ((k30.trans k3038).any)).free n39 fun z => ?_
      rw [List.mem_singleton] at z
      subst z
      obtain ⟨_, _, _, _, h, _⟩ := D29
      rw [(k30.trans k3038).get h (by simp)] at n39
      cases n39
    rintro σ H30 ⟨D, v9', v14, es, rfl, k30, hD30, hes, hel, nD0, hep, nDa, nDcc, nDc⟩
    have hdl : ((us.drop dn).length : Nat) ≤ 7 := by rw [List.length_drop]; omega
    have hel2 : es.length ≤ 90000 := by omega
    have hcn30 := k30.get hcn29 (by simp)
    have D30 := D29.more k30
    have k130 := k129.trans k30.any
    clear hL29 hsl2 hcn29 D29 k129 k30 hgv29 hel
    walk_at "r"
    refine ⟨a, c, ns, 7, rfl, D30, by decide, by decide, fun pk H31 pk0 pk1 k31 D31 => ?_⟩
    have hD31 := k31.get hD30 (by simp [nDa])
    have hcn31 := k31.get hcn30 (by simp [nca.1])
    have k131 := k130.trans k31
    clear hD30 hcn30 D30 k130 k31
    walk_at "r"
    refine s_cut (fun σ' H' => ∃ (v9 v10 v14 : Option V) (p : Addr) (xs : List Int), σ' = [some (.ref a), some (.ref cn), some (.ref G), none, some (.int (dn : Int)), some (.int (tn : Int)), some (.ref B), some (.ref R), v8, v9, v10, v11, some (.ref p), v13, v14, some (.int pk)] ∧ Keep [a] H H' ∧ Drw a c ns H' ∧ H' p = some (.lst (xs.map V.int)) ∧ by8 xs ∧ xs.length ≤ 200000 ∧ H p = none) ?_ ?_
    · walk_at "i"
      have fin : ∀ (p : Addr) (xs : List Int) (Ha Hb : Hp), Keep [a] H Ha → Drw a c ns Ha → Ha p = none → Keep [] Ha Hb → Hb p = some (.lst (xs.map V.int)) → by8 xs → xs.length ≤ 200000 → Keep [a] H Hb ∧ Drw a c ns Hb ∧ Hb p = some (.lst (xs.map V.int)) ∧ by8 xs ∧ xs.length ≤ 200000 ∧ H p = none := fun p xs Ha Hb k D np k2 hp h8 hl => ⟨k.trans k2.any, D.more k2, hp, h8, hl, k.free np (by simp [(D.fre np).1])⟩
      walk_at "r"
      refine ite_dec (fun h1 => ?_) (fun h1 => ?_)
      · walk_at "r"
        rw [List.length_map]
        refine ⟨a, c, ns, _, rfl, D31, by omega, by omega, fun y H32 y0 y1 k32 D32 => ?_⟩
        obtain ⟨n, rfl⟩ := Int.eq_ofNat_of_zero_le y0
        have hD32 := k32.get hD31 (by simp [nDa])
        walk_at "r"
        rw [cutV_to, ← List.map_take]
        intro p H33 np k33 hp
        walk_at "r"
        exact ⟨_, _, _, p, es.take n, rfl, fin p _ H32 H33 (k131.trans k32) D32 np k33 hp (by_take hes) (by rw [List.length_take]; omega)⟩
      walk_at "r"
      refine ite_dec (fun h2 => ?_) (fun h2 => ?_)
      · walk_at "r"
        rw [List.length_map]
        refine ⟨a, c, ns, _, rfl, D31, by omega, by omega, fun y H32 y0 y1 k32 D32 => ?_⟩
        obtain ⟨n, rfl⟩ := Int.eq_ofNat_of_zero_le y0
        have hD32 := k32.get hD31 (by simp [nDa])
        have hn : n < es.length := by omega
        have hat := at_ds0 hn
        have hix : ixN (es.map V.int).length (n : Int) = some n := Evl.ixN_nat (by rw [List.length_map]; exact hn)
        walk_at "r"
        refine ⟨a, c, ns, 255, rfl, D32, by decide, by decide, fun z H33 z0 z1 k33 D33 => ?_⟩
        have hD33 := k33.get hD32 (by simp [nDa])
        walk_at "r"
        intro H34 k34 h34
        walk_at "r"
        refine ⟨_, _, _, D, es.set n ((es.getD n 0 + 1 + z) % 256), rfl, (k131.trans (k32.trans k33)).mut nD0 k34, D33.keep k34 (by simp [Ne.symm nDa]) (by simp [Ne.symm nDcc]), by rw [h34, List.map_set], by_set hes ⟨Int.emod_nonneg _ (by decide), Int.emod_lt_of_pos _ (by decide)⟩, by rw [List.length_set]; omega, nD0⟩
      walk_at "r"
      refine ite_dec (fun h3 => ?_) (fun h3 => ?_)
      · walk_at "r"
        refine ⟨a, c, ns, cn, ks, rfl, D31, hcn31, h8, fun n hn => by have := hMs n hn; omega, nca.1, fun p1 x1 H32 n1 k32 D32 h1' hx1 hl1 => ?_⟩
        have hD32 := k32.get hD31 (by simp [nDa])
        have hcn32 := k32.get hcn31 (by simp [nca.1])
        walk_at "r"
        intro p2 H33 n2 k33 h2'
        have h2'' : H33 p2 = some (.lst ((es ++ x1).map V.int)) := by rw [h2', List.map_append]
        have hcn33 := k33.get hcn32 (by simp)
        have np2c : p2 ≠ cn := Ne.symm (ne_of_none hcn32 n2)
        have np2 : H p2 = none := (k131.trans k32).free n2 (by simp [(D32.fre n2).1])
        have k133 := k131.trans (k32.trans k33.any)
        have hlen2 : (es ++ x1).length ≤ 90200 := by rw [List.length_append]; omega
        clear h2' h1' hD32 hD31 hcn32 hcn31
        walk_at "r"
        refine ⟨a, c, ns, 2, rfl, D32.more k33, by decide, by decide, fun y H34 y0 y1 k34 D34 => ?_⟩
        have np2a : p2 ≠ a := (D32.fre n2).1
        have h234 := k34.get h2'' (by simp [np2a])
        have hcn34 := k34.get hcn33 (by simp [nca.1])
        have k134 := k133.trans k34
        clear h2'' hcn33
        walk_at "r"
        refine ite_dec (fun h4 => ?_) (fun h4 => ?_)
        · walk_at "r"
          intro b4 H35 n35 k35 hb4
          have hcn35 := k35.get hcn34 (by simp)
          walk_at "r"
          refine ⟨a, c, ns, cn, ks, 21, rfl, D34.more k35, hcn35, h8, hMs, by decide, nca.1, nca.2, fun g us' ts ks' H36 ng k36 D36 hcn36 hg36 hT36 hsm htl hk8 hkM hadv => ?_⟩
          have hwts := wts_small hsm (by omega)
          have h236 := (k35.any (S := [a, cn]) |>.trans k36).get h234 (by simp [np2a, np2c])
          have hb436 := k36.get hb4 (by simp [(D34.fre n35).1, Ne.symm (ne_of_none hcn34 n35)])
          walk_at "r"
          refine ⟨g, us', ts, rfl, hg36, hT36, fun t ht => (hsm t ht).ok, by omega, by omega, fun a2 H37 n37 k37 h2x => ?_⟩
          have hb437 := k37.get hb436 (by simp)
          have h237 := k37.get h236 (by simp)
          walk_at "r"
          intro a3 H38 n38 k38 h3x
          have h3' : H38 a3 = some (.lst (((4 : Int) :: wts ts).map V.int)) := h3x
          have h238 := k38.get h237 (by simp)
          clear hb4 hb436 hb437 h2x h3x h236 h237
          walk_at "r"
          refine ⟨a3, _, rfl, h3', by rw [List.length_cons]; omega, fun a4 H39 n39 k39 h4x => ?_⟩
          have h239 := k39.get h238 (by simp)
          have hrl : (My.rec (4 :: wts ts)).length ≤ 6010 := by
            rw [rec_len]
            have := wn_len3 (n := (4 :: wts ts).length) (by rw [List.length_cons]; omega)
            rw [List.length_cons] at this ⊢
            omega
          walk_at "r"
          intro p5 H40 n40 k40 h5x
          walk_at "r"
          have kcn : Keep [a] H H36 := by
            have k := (k134.trans k35.any)
            have h := (k.mono (S' := [a, cn]) (by simp)).trans k36
            refine ⟨fun b hb => ?_, h.2⟩
            by_cases hbc : b = cn
            · subst hbc; exact .inl nc0
            · exact h.1 b (by simp only [List.mem_cons, List.not_mem_nil, or_false] at hb ⊢; rintro (z | z); exact hb z; exact hbc z)
          have D39 := D36.more (k37.trans (k38.trans k39))
          exact ⟨_, _, _, p5, (es ++ x1) ++ My.rec (4 :: wts ts), rfl, fin p5 _ H39 H40 (kcn.trans (k37.trans (k38.trans k39)).any) D39 n40 k40 (by rw [h5x]; simp) (by_app (by_app hes hx1) (by_rec (by_cons (by decide) by_wts))) (by rw [List.length_append]; omega)⟩
        · walk_at "r"
          exact ⟨_, _, _, p2, es ++ x1, rfl, k134, D34, h234, by_app hes hx1, by omega, np2⟩
      walk_at "r"
      refine ite_dec (fun h4 => ?_) (fun h4 => ?_)
      · walk_at "r"
        rw [show (7 : Int) = ((7 : Nat) : Int) from rfl, cutV_from, ← List.map_drop]
        intro l1 H32 n1 k32 hl1
        have hD32 := k32.get hD31 (by simp)
        walk_at "r"
        intro l2 H33 n2 k33 hl2
        have hD33 := k33.get hD32 (by simp)
        walk_at "r"
        rw [List.length_map, show (es.length : Int) - (es.length : Int) / 3 = ((es.length - es.length / 3 : Nat) : Int) by omega, cutV_to, ← List.map_take]
        intro l3 H34 n3 k34 hl3
        have hD34 := k34.get hD33 (by simp)
        walk_at "r"
        intro l4 H35 n4 k35 hl4
        have hD35 := k35.get hD34 (by simp)
        walk_at "r"
        intro l5 H36 n5 k36 hl5
        have hD36 := k36.get hD35 (by simp)
        walk_at "r"
        intro l6 H37 n6 k37 hl6
        have k3137 := k32.trans (k33.trans (k34.trans (k35.trans (k36.trans k37))))
        have hl6' : H37 l6 = some (.lst ((es ++ [1, 2, 3]).map V.int)) := by rw [hl6, List.map_append]; rfl
        have hLs : Lsts H37 [.ref l1, .ref l2, .ref l3, .ref l4, .ref l6] [es.drop 7, [], es.take (es.length - es.length / 3), [0, 0, 0, 7], es ++ [1, 2, 3]] :=
          Paired.cons ⟨l1, rfl, (k33.trans (k34.trans (k35.trans (k36.trans k37)))).get hl1 (by simp)⟩ (Paired.cons ⟨l2, rfl, (k34.trans (k35.trans (k36.trans k37))).get hl2 (by simp)⟩ (Paired.cons ⟨l3, rfl, (k35.trans (k36.trans k37)).get hl3 (by simp)⟩ (Paired.cons ⟨l4, rfl, (k36.trans k37).get hl4 (by simp)⟩ (Paired.cons ⟨l6, rfl, hl6'⟩ Paired.nil))))
        have hGs : ∀ x ∈ ([es.drop 7, [], es.take (es.length - es.length / 3), [0, 0, 0, 7], es ++ [1, 2, 3]] : List (List Int)), by8 x ∧ x.length ≤ 200000 := by
          intro x hx
          simp only [List.mem_cons, List.not_mem_nil, or_false] at hx
          rcases hx with rfl | rfl | rfl | rfl | rfl
          · exact ⟨by_drop hes, by rw [List.length_drop]; omega⟩
          · exact ⟨by_nil, by decide⟩
          · exact ⟨by_take hes, by rw [List.length_take]; omega⟩
          · exact ⟨by_cons (by decide) (by_cons (by decide) (by_cons (by decide) (by_cons (by decide) by_nil))), by decide⟩
          · exact ⟨by_app hes (by_cons (by decide) (by_cons (by decide) (by_cons (by decide) by_nil))), by rw [List.length_append]; simp; omega⟩
        have hNs : ∀ v ∈ ([.ref l1, .ref l2, .ref l3, .ref l4, .ref l6] : List V), ∀ t, v = .ref t → H t = none := by
          have fr : ∀ (Hx : Hp) t, Keep [] H31 Hx → Hx t = none → H t = none := fun Hx t k h => (k131.trans k.any).free h (by simp [((D31.more k).fre h).1])
          intro v hv t e
          simp only [List.mem_cons, List.not_mem_nil, or_false] at hv
          rcases hv with rfl | rfl | rfl | rfl | rfl <;> cases e
          · exact fr _ _ Keep.refl n1
          · exact fr _ _ k32 n2
          · exact fr _ _ (k32.trans k33) n3
          · exact fr _ _ (k32.trans (k33.trans k34)) n4
          · exact fr _ _ (k32.trans (k33.trans (k34.trans (k35.trans k36)))) n6
        generalize hxs5 : ([es.drop 7, [], es.take (es.length - es.length / 3), [0, 0, 0, 7], es ++ [1, 2, 3]] : List (List Int)) = xs5 at hLs hGs
        have hx5 : xs5.length = 5 := by rw [← hxs5]; rfl
        clear hl1 hl2 hl3 hl4 hl5 hl6 hl6' hD32 hD33 hD34 hD35 hD36 hxs5
        walk_at "r"
        intro L H38 n7 k38 hL
        have D38 := D31.more (k3137.trans k38)
        walk_at "r"
        refine ⟨a, c, ns, 5, rfl, D38, by decide, by decide, fun y H39 y0 y1 k39 D39 => ?_⟩
        obtain ⟨n, rfl⟩ := Int.eq_ofNat_of_zero_le y0
        obtain ⟨x, hx⟩ : ∃ x, xs5[n]? = some x := ⟨_, List.getElem?_eq_getElem (by omega)⟩
        obtain ⟨u, hu, t, rfl, ht⟩ := pd_get' (hLs.mono k38) hx
        have hat := atI_nat hu
        have hxg := hGs x (List.mem_of_getElem? hx)
        have ht0 := hNs _ (List.mem_of_getElem? hu) t rfl
        have hta : t ≠ a := fun z => by
          subst z
          obtain ⟨_, _, _, _, h, _⟩ := D38
          rw [h] at ht
          cases x with
          | nil => cases ht
          | cons y r => cases ht
        have hLa : L ≠ a := ((D31.more k3137).fre n7).1
        have hL39 := k39.get hL (by simp [hLa])
        walk_at "r"
        exact ⟨_, _, _, t, x, rfl, k131.trans ((k3137.trans k38).any.trans k39), D39, k39.get ht (by simp [hta]), hxg.1, hxg.2, ht0⟩
      · walk_at "r"
        exact ⟨_, _, _, D, es, rfl, k131, D31, hD31, hes, by omega, nD0⟩
    rintro σ' H32 ⟨v9, v10, v14, p, xs, rfl, k32, D32, hp, hx, hxl, np⟩
    walk_at "r"
    exact q p xs H32 np k32 D32 hp hx hxl
end My

end
section
set_option maxHeartbeats 4000000
local macro_rules | `(tactic| walk_at "k") => `(tactic| first
  | assumption
  | exact W.Keep.trans (by assumption) (by assumption)
  | exact And.intro (by grind [W.Keep, W.Kp]) (by grind [W.Keep, W.Kt])
  | grind [W.Keep, W.Kp])
local macro_rules | `(tactic| walk_at "f") => `(tactic| first
  | assumption
  | exact L2.SqL.of (by assumption)
  | exact L2.SqT.of (by assumption)
  | exact L2.SqL.of L2.upd_same
  | exact L2.SqT.of L2.upd_same
  | exact L2.upd_same
  | exact W.carryL (by assumption) (by assumption)
  | exact W.carryL (by assumption) (by walk_at "k")
  | exact W.carryT (by assumption) (by walk_at "k")
  | exact W.carry (by assumption) (by grind [W.Keep, W.Kp])
  | exact L2.SqL.of (W.carry (by assumption) (by grind [W.Keep, W.Kp]))
  | exact L2.SqT.of (W.carry (by assumption) (by grind [W.Keep, W.Kp])))
local macro_rules | `(tactic| walk_at "a") => `(tactic| first
  | assumption
  | rfl)
local macro_rules | `(tactic| walk_at "n") => `(tactic| first
  | assumption
  | exact Nat.zero_le _
  | decide
  | (simp only [List.length_cons, List.length_nil]; decide)
  | omega
  | (simp only [PySem.sizeLine_eq]; omega)
  | (simp only [List.length_map, List.length_append, List.length_cons, List.length_nil, PySem.sizeLine_eq]; omega)
  | (simp only [List.length_map, List.length_append, List.length_cons, List.length_nil, List.length_take, List.length_drop, PySem.sizeLine_eq]; omega)
  | (simp only [List.length_map, List.length_append, List.length_cons, List.length_nil, PySem.sizeLine_eq] at *; omega))
local macro_rules | `(tactic| walk_at "c") => `(tactic| first
  | assumption
  | decide
  | exact And.intro (by decide) (by decide)
  | exact Or.inr (And.intro (by decide) (by decide))
  | exact Or.inl (And.intro (by decide) (by decide))
  | exact And.intro (by decide) (And.intro (by decide) (by decide))
  | exact (show (0 : Int) < _ by decide)
  | exact And.intro (by omega) (by omega)
  | exact Or.inl (And.intro (by omega) (by omega))
  | exact Or.inr (And.intro (by omega) (by omega))
  | exact (show (0 : Int) < _ by omega))
local macro_rules | `(tactic| walk_at "v") => `(tactic| with_reducible first
  | refine W.v0 ?_ | refine W.v1 ?_ | refine W.v2 ?_ | refine W.v3 ?_ | refine W.v4 ?_ | refine W.v5 ?_ | refine W.v6 ?_ | refine W.v7 ?_ | refine W.v8 ?_
  | refine W.v9 ?_ | refine W.v10 ?_ | refine W.v11 ?_ | refine W.v12 ?_ | refine W.v13 ?_ | refine W.v14 ?_ | refine W.v15 ?_ | refine W.v16 ?_ | refine W.v17 ?_
  | refine W.g0 ?_ | refine W.g1 ?_ | refine W.g2 ?_ | refine W.g3 ?_ | refine W.g4 ?_ | refine W.g5 ?_ | refine W.g6 ?_ | refine W.g7 ?_ | refine W.g8 ?_
  | refine W.g9 ?_ | refine W.g10 ?_ | refine W.g11 ?_ | refine W.g12 ?_ | refine W.g13 ?_ | refine W.g14 ?_ | refine W.g15 ?_)
local macro_rules | `(tactic| walk_at "e") => `(tactic| with_reducible first
  | refine W.e_c ?_ | refine W.e_op ?_ | refine W.s_seq ?_ | refine W.s_asg ?_ | refine W.e_CB ?_ | refine W.a_cons ?_ | refine W.a_nil ?_ | refine W.e_call ?_
  | refine W.t_test ?_ | refine W.w_B ?_ | refine W.s_if ?_ | refine W.s_ret ?_ | refine W.s_drop ?_ | refine W.e_un ?_ | refine W.e_fld ?_ | refine W.s_fld ?_
  | refine W.e_meth ?_ | refine W.e_if ?_ | refine W.e_lst ?_ | refine W.e_tup ?_ | refine W.e_sl ?_ | refine W.o_none ?_ | refine W.o_some ?_ | refine W.w_part ?_
  | refine W.e_bm ?_ | refine W.e_bm0 ?_ | refine W.t_B ?_ | refine W.t_and ?_ | refine W.t_or ?_ | refine W.t_not ?_ | refine W.e_andV ?_ | refine W.e_orV ?_ | refine W.e_notV ?_ | refine W.w_BV ?_ | refine W.e_chain ?_
  | refine W.s_aug ?_ | refine W.s_augS ?_ | refine W.s_next ?_ | refine W.s_brk ?_ | refine W.s_cont ?_ | refine W.s_retN ?_ | refine W.s_fa ?_ | refine W.e_make ?_ | refine W.w_make ?_
  | refine W.w_I0 ?_ | refine W.w_U ?_ | refine W.w_aug ?_ | refine W.w_eqI ?_ | refine W.w_neI ?_ | refine W.w_eqS ?_ | refine W.w_neS ?_ | refine W.w_eqB ?_ | refine W.w_neB ?_
  | refine W.w_int ?_ | refine W.w_intB ?_ | refine W.w_min ?_ | refine W.w_max ?_ | refine W.w_isN ?_ | refine W.w_isI ?_ | refine W.w_isS ?_ | refine W.w_isB ?_ | refine W.w_isR ?_
  | refine W.w_notN ?_ | refine W.w_notI ?_ | refine W.w_notR ?_ | refine W.w_notS ?_ | refine W.w_eqNI ?_ | refine W.w_neNI ?_ | refine W.w_eqN ?_ | refine W.w_neN ?_
  | refine W.s_forL ?_ | refine W.s_forT ?_ | refine W.s_forS ?_ | refine W.s_forR1 ?_ | refine W.s_forR2 ?_ | refine W.s_forR3 ?_ | refine W.s_forZ ?_ | refine W.s_forE ?_
  | refine W.e_lcL ?_ | refine W.e_lcT ?_ | refine W.w_ord ?_ | refine W.e_lcR1 ?_ | refine W.e_lcR2 ?_ | refine W.e_lcZ ?_ | refine W.e_lcS ?_ | refine W.t_yes ?_ | refine W.w_gcons ?_ | refine W.w_gnil ?_ | refine W.s_par ?_ | refine W.w_par ?_ | refine W.g_sub ?_ | refine W.e_m1 ?_ | refine W.w_strR ?_ | refine W.w_rAdd ?_ | refine W.w_rSub ?_ | refine W.s_raise ?_ | refine W.s_try ?_ | refine W.e_methS ?_ | refine W.e_callS ?_)
local macro_rules | `(tactic| walk_at "w") => `(tactic| first
  | ((with_reducible refine' W.w_I ?wh ?wq); (case wh => walk_at "c"))
  | ((with_reducible refine' W.w_ixL (n := 0) ?wh ?we ?wq); (case wh => walk_at "f"); (case we => walk_at "a"))
  | ((with_reducible refine' W.w_ixT (n := 0) ?wh ?we ?wq); (case wh => walk_at "f"); (case we => walk_at "a"))
  | ((with_reducible refine' W.w_lenL ?wh ?wq); (case wh => walk_at "f"))
  | ((with_reducible refine' W.w_lenT ?wh ?wq); (case wh => walk_at "f"))
  | ((with_reducible refine' W.w_lenS ?wh ?wq); (case wh => walk_at "n"))
  | ((with_reducible refine' W.w_app ?wh ?we ?wq); (case wh => walk_at "f"); (case we => walk_at "n"))
  | ((with_reducible refine' W.w_meth ?wh ?we ?wq); (case wh => walk_at "f"); (case we => first | assumption | rfl))
  | ((with_reducible refine' W.w_ixLTl ?wh ?we ?wq); (case wh => walk_at "f"); (case we => walk_at "a"))
  | ((with_reducible refine' W.w_ixLTt ?wh ?we ?wq); (case wh => walk_at "f"); (case we => walk_at "a"))
  | ((with_reducible refine' W.w_addS ?wh ?wq); (case wh => walk_at "n"))
  | ((with_reducible refine' W.w_set ?wh ?we ?wq); (case wh => walk_at "f"); (case we => walk_at "a"))
  | ((with_reducible refine' W.w_tup ?wh ?we ?wq); (case wh => walk_at "f"); (case we => first | assumption | rfl))
  | ((with_reducible refine' W.w_slS ?wh ?wq); (case wh => walk_at "n"))
  | ((with_reducible refine' W.w_rApp ?wh ?we ?wq); (case wh => walk_at "f"); (case we => walk_at "n"))
  | ((with_reducible refine' W.w_newL ?wh ?wq); (case wh => walk_at "n"))
  | ((with_reducible refine' W.w_newT ?wh ?wq); (case wh => walk_at "n"))
  | ((with_reducible refine' W.w_listL ?wh ?wq); (case wh => walk_at "f"))
  | ((with_reducible refine' W.w_tupL ?wh ?wq); (case wh => walk_at "f"))
  | ((with_reducible refine' W.w_slL ?wh ?wq); (case wh => walk_at "f"))
  | ((with_reducible refine' W.w_cat ?wh ?wf ?we ?wq); (case wh => walk_at "f"); (case wf => walk_at "f"); (case we => walk_at "n"))
  | ((with_reducible refine' W.w_catT ?wh ?wf ?wx ?wy ?we ?wq); (case wh => walk_at "f"); (case wf => walk_at "f"); (case wx => exact List.cons_ne_nil _ _); (case wy => exact List.cons_ne_nil _ _); (case we => walk_at "n"))
  | ((with_reducible refine' W.w_ext ?wh ?wf ?we ?wq); (case wh => walk_at "f"); (case wf => walk_at "f"); (case we => walk_at "n"))
  | ((with_reducible refine' W.w_recv ?wh ?wq); (case wh => walk_at "f"))
  | ((with_reducible refine' W.w_isi1 ?wh ?we ?wq); (case wh => assumption); (case we => decide +kernel))
  | ((with_reducible refine' W.w_isi0 ?wh ?we ?wq); (case wh => assumption); (case we => decide +kernel))
  | ((with_reducible refine' W.w_isiT10 ?wh ?wf ?we ?wg ?wq); (case wh => assumption); (case wf => walk_at "f"); (case we => decide +kernel); (case wg => decide +kernel))
  | ((with_reducible refine' W.w_isiT01 ?wh ?wf ?we ?wg ?wq); (case wh => assumption); (case wf => walk_at "f"); (case we => decide +kernel); (case wg => decide +kernel))
  | ((with_reducible refine' W.w_isiT00 ?wh ?wf ?we ?wg ?wq); (case wh => assumption); (case wf => walk_at "f"); (case we => decide +kernel); (case wg => decide +kernel))
  | ((with_reducible refine' W.w_ins ?wh ?we ?wf ?wq); (case wh => walk_at "f"); (case we => walk_at "n"); (case wf => walk_at "c"))
  | ((with_reducible refine' W.w_unl ?wh ?we ?wq); (case wh => walk_at "f"); (case we => first | assumption | rfl))
  | ((with_reducible refine' W.ite_T ?_))
  | ((with_reducible refine' W.ite_F ?_))
  | ((with_reducible refine' W.ite_nT ?_))
  | ((with_reducible refine' W.ite_nF ?_))
  | ((with_reducible refine' W.ite_self ?_))
  | ((with_reducible refine' W.ite_nself ?_))
  | ((with_reducible refine' W.ite_tf ?_))
  | ((with_reducible refine' W.ite_ft ?_))
  | ((with_reducible refine' W.ite_ntf ?_))
  | ((with_reducible refine' W.ite_nft ?_))
  | ((with_reducible refine' And.intro ?wl ?wq); (case wl => rfl)))
local macro_rules | `(tactic| walk_at "i") => `(tactic| try (dsimp only [L2.cxOf, L2.wipe, List.map, List.set]))
local macro_rules | `(tactic| walk_at "s") => `(tactic| first | walk_at "v" | walk_at "e" | walk_at "w")
local macro_rules | `(tactic| walk_at "r") => `(tactic| repeat walk_at "s")

namespace My
open PySem L2 W
variable {P : Program} {w : World} {K : PySem.W.Frag} {mg : Str → Option Value} {base : Heap} {A : Adr}
/-! how wide what is told is -/
def okw (N : Nat) (b : Bs) : Prop := b.2.length = 8 ∧ ∀ row ∈ b.2, ∀ d ∈ row, wdD d ≤ N
theorem pbase_w {ds : List Int} {bs : Bs} (h : pbase ds = some bs) : ∀ row ∈ bs.2, ∀ d ∈ row, wdD d ≤ ds.length := by
  obtain ⟨q, h⟩ := phead_some h
  unfold pbs at h
  simp only [Option.bind_eq_some_iff, Option.map_eq_some_iff] at h
  obtain ⟨n, _, r, hr, e⟩ := h
  have e1 := congrArg (fun z => z.1.2) e
  simp only at e1
  rw [← e1]
  intro row hrow d hd
  obtain ⟨p', q', hf⟩ := pmany_mem _ hr row hrow
  unfold pdeeds plist at hf
  simp only [Option.bind_eq_some_iff] at hf
  obtain ⟨z, _, hm⟩ := hf
  obtain ⟨p2, q2, hd2⟩ := pmany_mem _ hm d hd
  exact pdd_wd hd2
theorem nxs_w {N : Nat} {ts : List Tri} : ∀ {rows r : Rws}, nxs rows ts = some r → (∀ t ∈ ts, wdD t.d ≤ N) → (∀ row ∈ rows, ∀ d ∈ row, wdD d ≤ N) → ∀ row ∈ r, ∀ d ∈ row, wdD d ≤ N := by
  induction ts with
  | nil => intro rows r h _ hM; cases h; exact hM
  | cons t ts ih =>
    intro rows r h ht hM
    have h : (nx1 rows t).bind (fun r => nxs r ts) = some r := h
    cases hn : nx1 rows t with
    | none => rw [hn] at h; cases h
    | some z =>
      rw [hn] at h
      refine ih (rows := z) h (fun x hx => ht x (by simp [hx])) fun row hrow d hd => ?_
      unfold nx1 at hn
      split at hn
      · cases hn
        rcases List.mem_or_eq_of_mem_set hrow with hm | he
        · exact hM row hm d hd
        · rw [he] at hd
          rcases List.mem_append.mp hd with hd | hd
          · by_cases hl : t.r < rows.length
            · rw [List.getD_eq_getElem?_getD, List.getElem?_eq_getElem hl] at hd
              exact hM _ (List.getElem_mem hl) d hd
            · rw [List.getD_eq_getElem?_getD, List.getElem?_eq_none (by omega)] at hd; cases hd
          · rw [List.mem_singleton] at hd; rw [hd]; exact ht t (by simp)
      · cases hn
theorem scan_w {N : Nat} {l : List (List Int × Nat)} : ∀ {b : Bs} {e : Nat}, (∀ z ∈ l, z.1.length ≤ N) → okw N b → ∀ b' ∈ (scan b e l).1, okw N b' := by
  induction l with
  | nil => intro b e _ _ b' hb'; cases hb'
  | cons z r ih =>
    intro b e hz hb b' hb'
    cases h : note1 b z.1 with
    | none => rw [scan_none h] at hb'; cases hb'
    | some b2 =>
      have hb2 : okw N b2 := by
        unfold note1 at h
        simp only [Option.bind_eq_some_iff, Option.map_eq_some_iff] at h
        obtain ⟨ts, hts, rows, hr, e⟩ := h
        subst e
        refine ⟨by rw [nxs_len hr, hb.1], nxs_w hr (fun t ht => ?_) hb.2⟩
        obtain ⟨q, hq⟩ := phead_some hts
        exact Nat.le_trans ((ptrs_wd hq).1 t ht) (hz z (by simp))
      rw [scan_some h] at hb'
      rcases List.mem_cons.mp hb' with rfl | hb'
      · exact hb2
      · exact ih (fun x hx => hz x (by simp [hx])) hb2 b' hb'
theorem scan_rows {ds : List Int} (hby : ∀ b ∈ ds, 0 ≤ b ∧ b < 256) {l : List (List Int × Nat)} : ∀ {b : Bs} {e : Nat}, Re ds e l → e ≤ ds.length → b.2.length = 8 → (∀ row ∈ b.2, row.length ≤ e) → ∀ b' ∈ (scan b e l).1, ∀ row ∈ b'.2, row.length ≤ ds.length := by
  induction l with
  | nil => intro b e _ _ _ _ b' hb'; cases hb'
  | cons z r ih =>
    intro b e hR he h8 hM b' hb'
    obtain ⟨hz, hR2⟩ := hR.ends hby rfl
    have hzl : z.2 ≤ ds.length := by
      cases hR with
      | more h1 h2 h3 => exact h2.1
    cases h : note1 b z.1 with
    | none => rw [scan_none h] at hb'; cases hb'
    | some b2 =>
      obtain ⟨n8, nb⟩ := note1_ok h h8 hM
      have hrl := rec_len z.1
      have nb2 : ∀ row ∈ b2.2, row.length ≤ z.2 := fun row hr => by have := nb row hr; omega
      rw [scan_some h] at hb'
      rcases List.mem_cons.mp hb' with rfl | hb'
      · exact fun row hr => Nat.le_trans (nb2 row hr) hzl
      · exact ih hR2 hzl n8 nb2 b' hb'
theorem tell_w {ds : List Int} (hby : ∀ b ∈ ds, 0 ≤ b ∧ b < 256) {l : List (List Int × Nat)} {t n : Nat} {bss : List Bs} (hR : Re ds 0 l) (h : tell l = some (t, bss, n)) : ∀ b ∈ bss, okw ds.length b ∧ ∀ row ∈ b.2, row.length ≤ ds.length := by
  obtain ⟨z0, z1, z2, r, b0, rfl, hb0, rfl, _⟩ := tell_some h
  have hrec := hR.recs
  obtain ⟨hb8, hbl⟩ := pbase_ok hb0
  have hbw := pbase_w hb0
  have h1 := (hrec z1 (by simp)).1
  obtain ⟨e0, R1⟩ := hR.ends hby rfl
  obtain ⟨e1, R2⟩ := R1.ends hby rfl
  obtain ⟨e2, R3⟩ := R2.ends hby rfl
  have hz2l : z2.2 ≤ ds.length := (Re.drop hby (i := 2) (z := z2) hR rfl).2
  have hrl := rec_len z1.1
  have ok0 : okw ds.length b0 := ⟨hb8, fun row hr d hd => Nat.le_trans (hbw row hr d hd) h1⟩
  intro b hb
  rcases List.mem_cons.mp hb with rfl | hb
  · exact ⟨ok0, fun row hr => Nat.le_trans (hbl row hr) h1⟩
  · exact ⟨scan_w (fun z hz => (hrec z (by simp [hz])).1) ok0 b hb, scan_rows hby R3 hz2l hb8 (fun row hr => by have := hbl row hr; omega) b hb⟩
theorem Bs_wide {N : Nat} {b : Bs} (h : okw N b) (h2 : ∀ row ∈ b.2, row.length ≤ N) (hN : N ≤ 1000000) : wid (pdBs b) ≤ 16777216 :=
  Nat.le_trans (wid_Bs h.1 fun row hr => ⟨h2 row hr, h.2 row hr⟩) (by omega)
theorem RecsV.split {H : Hp} : ∀ {us : List V} {l : List (List Int × Nat)}, Paired (fun v z => ∃ t r, v = V.ref t ∧ H t = some (.tup [.ref r, .int (z.2 : Int)]) ∧ H r = some (.lst (z.1.map V.int))) us l →
    ∃ rr : List Addr, rr.length = l.length ∧ Lsts H (rr.map V.ref) (l.map Prod.fst) ∧ ∀ (i : Nat) (u : V), us[i]? = some u → ∃ (t r : Addr) (z : List Int × Nat), u = V.ref t ∧ rr[i]? = some r ∧ l[i]? = some z ∧ H t = some (.tup [.ref r, .int (z.2 : Int)])
  | _, _, .nil => ⟨[], rfl, .nil, fun i u h => by simp at h⟩
  | _, _, .cons ⟨t, r, e, h1, h2⟩ rest => by
    obtain ⟨rr, hl, hL, hg⟩ := RecsV.split rest
    refine ⟨r :: rr, by simp [hl], Paired.cons ⟨r, rfl, h2⟩ hL, fun i u h => ?_⟩
    match i, h with
    | 0, h => simp at h; subst h; exact ⟨t, r, _, e, rfl, rfl, h1⟩
    | i + 1, h =>
      obtain ⟨t', r', z', e1, e2, e3, e4⟩ := hg i u (by simpa using h)
      exact ⟨t', r', z', e1, by simpa using e2, by simpa using e3, e4⟩
def recD (l : List (List Int × Nat)) : PyData := .list (l.map fun z => .tuple [lD z.1, .int (z.2 : Int)])
theorem RecsV.da {H : Hp} : ∀ {us : List V} {l : List (List Int × Nat)}, Paired (fun v z => ∃ t r, v = V.ref t ∧ H t = some (.tup [.ref r, .int (z.2 : Int)]) ∧ H r = some (.lst (z.1.map V.int))) us l → DaL H (l.map fun z => .tuple [lD z.1, .int (z.2 : Int)]) us
  | _, _, .nil => DaL.nil
  | _, _, .cons ⟨t, r, e, h1, h2⟩ rest => by
    subst e
    exact DaL.cons (Da.tup h1 (DaL.cons (Da.lst h2 (DaL.ints _)) (DaL.one Da.int))) (RecsV.da rest)
theorem canRec (l : List (List Int × Nat)) : PyData.canLayAll0 (l.map fun z => .tuple [lD z.1, .int (z.2 : Int)]) = true := by
  induction l with
  | nil => rfl
  | cons z r ih =>
    show (PyData.canLay0 (.tuple [lD z.1, .int (z.2 : Int)]) && PyData.canLayAll0 (r.map fun z => .tuple [lD z.1, .int (z.2 : Int)])) = true
    rw [ih, Bool.and_true]
    show (PyData.canLayAll0 (z.1.map PyData.int) && (PyData.canLay0 (.int (z.2 : Int)) && true)) = true
    rw [canLay_ints]; rfl
theorem depRec (l : List (List Int × Nat)) : PyData.depthAll (l.map fun z => .tuple [lD z.1, .int (z.2 : Int)]) ≤ 2 := by
  induction l with
  | nil => exact Nat.zero_le _
  | cons z r ih =>
    show max (max (PyData.depthAll (z.1.map PyData.int) + 1) (max 0 0) + 1) (PyData.depthAll (r.map fun z => .tuple [lD z.1, .int (z.2 : Int)])) ≤ 2
    rw [depth_ints]
    omega
theorem shpRec (l : List (List Int × Nat)) : SeqAt.shaped (recD l) = true := by
  show (PyData.canLayAll0 (l.map fun z => .tuple [lD z.1, .int (z.2 : Int)]) && decide (PyData.depthAll (l.map fun z => .tuple [lD z.1, .int (z.2 : Int)]) + 1 ≤ 64)) = true
  rw [canRec, Bool.true_and]
  exact decide_eq_true (by have := depRec l; omega)
theorem w_neRec {H : Hp} {Q : VK} {p q : Addr} {us : List V} {l : List (List Int × Nat)} (hp : H p = some (.lst us)) (h : RecsV H us l) (hq : H q = some (.lst [])) (k : Q (.bl (!decide (l = []))) H) : rNeD K (.ref p) (.ref q) H Q :=
  ⟨recD l, .list [], (Da.lst hp (RecsV.da h)).dp, (Da.lst hq DaL.nil).dp, shpRec l, by decide, by
    have e : PyData.eqv (recD l) (.list []) = decide (l = []) := by
      unfold recD
      simp only [PyData.eqv]
      cases l with
      | nil => simp [PyData.eqvAll]
      | cons z r => simp [PyData.eqvAll]
    rw [e]; exact k⟩
def sp_istold : Sp := fun vs H Q _ => ∃ (a : Addr) (ds : List Int), vs = [.ref a] ∧ H a = some (.lst (ds.map V.int)) ∧ ds.length ≤ 200000 ∧ (∀ b ∈ ds, 0 ≤ b ∧ b < 256) ∧ ∀ H', Keep [] H H' → Q (.bl true) H'
theorem lastE_last (l : List (List Int × Nat)) (z : List Int × Nat) : lastE 0 (l ++ [z]) = z.2 := lastE_snoc z l 0
theorem ok__law_is_told (e : Env K mg A) : FnOk P w K mg base CX0 10 A.f__law_is_told A.d__law_is_told ["data"] sp_istold := by
  have G__law_tells := ok__law_tells (P := P) (w := w) (base := base) e
  have G__law_records := ok__law_records (P := P) (w := w) (base := base) e
  have G__law_same := ok__law_same (P := P) (w := w) (base := base) e 7
  have G_read_log := ok_read_log (P := P) (w := w) (base := base) e
  have G_read_records := ok_read_records (P := P) (w := w) (base := base) e
  have G_commits_of := ok_commits_of (P := P) (w := w) (base := base) e
  have G_Base_data := ok_Base_data (P := P) (w := w) (base := base) e
  refine e.F__law_is_told.ok sc__law_is_told (fun vs H Q E h => ?_) (fun cdv AA outer s H vs Q E hr h => ?_)
  · obtain ⟨a, ds, rfl, _⟩ := h
    rfl
  · obtain ⟨a, ds, rfl, ha, hl, hby, q⟩ := h
    obtain ⟨l, hR⟩ := Re.ex ds (ds.length + 1) 0 (by omega)
    have hll := hR.len (Nat.zero_le _)
    refine ⟨_, (pss_cons (ps_set (i := 1) sc__law_is_told.nd rfl (Or.inl rfl) (pe_call G__law_tells (hr.mono (by omega)) (by rfl) e.m__law_tells e.k__law_tells e.b__law_tells .nil pass0 (pa_cons (pv 0) pa_nil)))
    (pss_cons (ps_set (i := 2) sc__law_is_told.nd rfl (Or.inl rfl) (pe_call G_read_log (hr.mono (by omega)) (by rfl) e.m_read_log e.k_read_log e.b_read_log .nil pass0 (pa_cons (pe_callTy (call_listLK (K := K)) (by rfl) e.n_list (by decide +kernel) (pa_cons (pv 0) pa_nil)) pa_nil)))
    (pss_cons (ps_set (i := 3) sc__law_is_told.nd rfl (Or.inl rfl) (pe_call G__law_records (hr.mono (by omega)) (by rfl) e.m__law_records e.k__law_records e.b__law_records .nil pass0 (pa_cons (pv 0) pa_nil)))
    (Evl.pss_cut (ps_if (pt_not (pt_val (pe_call G__law_same (hr.mono (by omega)) (by rfl) e.m__law_same e.k__law_same e.b__law_same .nil pass0 (pa_cons (pe_call G_read_records (hr.mono (by omega)) (by rfl) e.m_read_records e.k_read_records e.b_read_records .nil pass0 (pa_cons (pe_callTy (call_listLK (K := K)) (by rfl) e.n_list (by decide +kernel) (pa_cons (pv 0) pa_nil)) pa_nil)) (pa_cons (pe_tup (pa_cons (pe_lc (own := [("record", 4), ("end", 5)]) (by rfl) sc__law_is_told.nd (pi_listK (K := K) (pv 3)) (blkOk_by (own := [("record", 4), ("end", 5)]) (N := nm__law_is_told) (sc := defScope s__law_is_told) (by decide +kernel)) (fun _ _ _ _ _ => (pg_tupK (K := K) (n := 2) rfl (pgs_cons (pg_name (i := 4) sc__law_is_told.nd rfl (Or.inl rfl)) (pgs_cons (pg_name (i := 5) sc__law_is_told.nd rfl (Or.inl rfl)) pgs_nil)))) (fun _ _ _ _ _ => pts_nil) (fun _ _ _ _ _ => (pv 4))) (pa_cons (pe_ifExp (pt_cmpR (op_neDK hr.units (K := K)) (pv 3) (pe_lst pa_nil) (nomark _)) (pe_ix (ix_tupK (K := K)) (pe_ix (ix_listK (K := K)) (pv 3) (pe_un un_neg pe_int) (fun _ _ => rfl)) pe_int (fun _ _ => rfl)) pe_int) pa_nil))) pa_nil))))) (pss_one (ps_ret pe_bl)) pss_nil)
    (pss_cons (ps_if (pt_cmpR op_isNo (pv 1) pe_non (nomark _)) (pss_one (ps_ret (pe_cmpR op_isNo (pv 2) pe_non (nomark _)))) pss_nil)
    (pss_cons (ps_asg (pv 1) (pg_tupK (K := K) (n := 3) rfl (pgs_cons (pg_name (i := 6) sc__law_is_told.nd rfl (Or.inl rfl)) (pgs_cons (pg_name (i := 7) sc__law_is_told.nd rfl (Or.inl rfl)) (pgs_cons (pg_name (i := 8) sc__law_is_told.nd rfl (Or.inl rfl)) pgs_nil)))))
    (Evl.pss_cut (ps_if (PW.pt (pw_or (pt_not (pt_val (pe_callB (call_isiK (K := K)) (by rfl) e.n_isinstance (by decide +kernel) (pa_cons (pv 2) (pa_cons (pe_bltn (v := .ty "tuple") (by rfl) e.n_tuple (by decide +kernel) rfl) pa_nil))))) (pw_or (pt_cmpR op_ne (pe_callB (call_lenLK (K := K)) (by rfl) e.n_len (by decide +kernel) (pa_cons (pv 2) pa_nil)) pe_int (nomark _)) (pw_or1 (pt_not (pt_val (pe_call G__law_same (hr.mono (by omega)) (by rfl) e.m__law_same e.k__law_same e.b__law_same .nil pass0 (pa_cons (pe_tup (pa_cons (pe_ix (ix_tupK (K := K)) (pv 2) pe_int (fun _ _ => rfl)) (pa_cons (pe_ix (ix_tupK (K := K)) (pv 2) pe_int (fun _ _ => rfl)) pa_nil))) (pa_cons (pe_tup (pa_cons (pv 6) (pa_cons (pv 8) pa_nil))) pa_nil))))))))) (pss_one (ps_ret pe_bl)) pss_nil)
    (Evl.pss_cut (ps_if (pt_not (pt_val (pe_call G__law_same (hr.mono (by omega)) (by rfl) e.m__law_same e.k__law_same e.b__law_same .nil pass0 (pa_cons (pe_meth0 (pe_ix (ix_tupK (K := K)) (pv 2) pe_int (fun _ _ => rfl)) e.c_Base e.h_Base_data G_Base_data (hr.mono (by omega)) e.b_Base_data .nil pass0) (pa_cons (pe_tup (pa_cons (pe_ix (ix_listK (K := K)) (pe_ix (ix_listK (K := K)) (pv 7) (pe_un un_neg pe_int) (fun _ _ => rfl)) pe_int (fun _ _ => rfl)) (pa_cons (pe_callTy (call_tupleLK (K := K)) (by rfl) e.n_tuple (by decide +kernel) (pa_cons (pe_lc (own := [("row", 9)]) (by rfl) sc__law_is_told.nd (pi_listK (K := K) (pe_ix (ix_listK (K := K)) (pe_ix (ix_listK (K := K)) (pv 7) (pe_un un_neg pe_int) (fun _ _ => rfl)) pe_int (fun _ _ => rfl))) (blkOk_by (own := [("row", 9)]) (N := nm__law_is_told) (sc := defScope s__law_is_told) (by decide +kernel)) (fun _ _ _ _ _ => (pg_name (i := 9) sc__law_is_told.nd rfl (Or.inl rfl))) (fun _ _ _ _ _ => pts_nil) (fun _ _ _ _ _ => (pe_callTy (call_tupleLK (K := K)) (by rfl) e.n_tuple (by decide +kernel) (pa_cons (pv 9) pa_nil)))) pa_nil)) pa_nil))) pa_nil))))) (pss_one (ps_ret pe_bl)) pss_nil)
    (pss_one (ps_ret (pe_call G__law_same (hr.mono (by omega)) (by rfl) e.m__law_same e.k__law_same e.b__law_same .nil pass0 (pa_cons (pe_call G_commits_of (hr.mono (by omega)) (by rfl) e.m_commits_of e.k_commits_of e.b_commits_of .nil pass0 (pa_cons (pe_callTy (call_listLK (K := K)) (by rfl) e.n_list (by decide +kernel) (pa_cons (pv 0) pa_nil)) pa_nil)) (pa_cons (pe_lc (own := [("commits", 10), ("rows", 11)]) (by rfl) sc__law_is_told.nd (pi_listK (K := K) (pv 7)) (blkOk_by (own := [("commits", 10), ("rows", 11)]) (N := nm__law_is_told) (sc := defScope s__law_is_told) (by decide +kernel)) (fun _ _ _ _ _ => (pg_unlK (K := K) (n := 2) rfl (pgs_cons (pg_name (i := 10) sc__law_is_told.nd rfl (Or.inl rfl)) (pgs_cons (pg_name (i := 11) sc__law_is_told.nd rfl (Or.inl rfl)) pgs_nil)))) (fun _ _ _ _ _ => pts_nil) (fun _ _ _ _ _ => (pe_lc (own := [("row", 9)]) (by rfl) sc__law_is_told.nd (pi_listK (K := K) (pv 11)) (blkOk_in (blkOk_by (own := [("row", 9)]) (N := nm__law_is_told) (sc := defScope s__law_is_told) (by decide +kernel)) (by decide +kernel)) (fun _ _ _ _ _ => (pg_name (i := 9) sc__law_is_told.nd rfl (Or.inl rfl))) (fun _ _ _ _ _ => pts_nil) (fun _ _ _ _ _ => (pe_callB (call_lenLK (K := K)) (by rfl) e.n_len (by decide +kernel) (pa_cons (pv 9) pa_nil)))))) pa_nil))))))))))))), ?_⟩
    refine enter (st__law_is_told _) ?_
    walk_at "i"
    walk_at "r"
    refine ⟨a, ds, l, rfl, ha, by omega, hby, hR, fun v1 H1 k1 hv1 => ?_⟩
    have ha1 := k1.get ha (by simp)
    walk_at "r"
    intro c1 H2 n2 k2 hc1
    walk_at "r"
    refine ⟨c1, ds, l, rfl, hc1, by omega, hby, hR, fun v2 H3 k3 hv2 => ?_⟩
    have ha3 := (k2.trans k3).get ha1 (by simp)
    walk_at "r"
    refine ⟨a, ds, l, rfl, ha3, by omega, hby, hR, fun rl us H4 nrl k4 hrl hrv => ?_⟩
    have ha4 := k4.get ha3 (by simp)
    walk_at "r"
    refine s_cut (fun σ' H' => σ' = [some (.ref a), some v1, some v2, some (.ref rl), none, none, none, none, none, none, none, none] ∧ Keep [] H4 H') ?_ ?_
    walk_at "i"
    walk_at "r"
    intro c2 H5 n5 k5 hc2
    walk_at "r"
    refine ⟨c2, ds, l, rfl, hc2, by omega, hR, fun t0 p0 us0 H6 nt0 k6 ht0 hp0 hL0 => ?_⟩
    have k46 := k5.trans k6
    have hrl6 := k46.get hrl (by simp)
    have hrv6 := hrv.mono k46
    obtain ⟨rr, hrrl, hrr, hrg⟩ := RecsV.split hrv6
    have hul : us.length = l.length := Paired.length hrv
    clear hc1 hc2 hrl hrv
    walk_at "r"
    refine lcL (SqL.of hrl6) (fun D i H' => Keep [] H6 H' ∧ H' D = some (.lst ((rr.take i).map V.ref))) (fun D H7 nD k7 hD => ⟨k7, hD⟩) (fun D i H' _ h => SqL.of (h.1.get hrl6 (by simp))) ?_ ?_
    · rintro D i x H7 nD hx ⟨k7, hD⟩
      obtain ⟨t, r, z, rfl, hri, hzi, ht⟩ := hrg i x hx
      have ht7 := k7.get ht (by simp)
      have hacc : ((rr.take i).map V.ref).length ≤ 200000 := by rw [List.length_map, List.length_take]; omega
      walk_at "i"
      walk_at "r"
      intro H8 k8 h8
      refine ⟨k7.mut nD k8, ?_⟩
      rw [h8, List.take_add_one, hri, List.map_append]; rfl
    rintro D H7 nD ⟨k7, hD⟩
    rw [hul, ← hrrl, List.take_length] at hD
    have hrl7 := k7.get hrl6 (by simp)
    have hrv7 := hrv6.mono k7
    clear hrl6
    walk_at "r"
    intro em H8 n8 k8 hem
    refine w_neRec (k8.get hrl7 (by simp)) (hrv7.mono k8) hem ?_
    have k48 := k46.trans (k7.trans k8)
    have hD8 := k8.get hD (by simp)
    have hrl8 := k8.get hrl7 (by simp)
    have hrv8 := hrv7.mono k8
    have k18 := k2.trans (k3.trans (k4.trans k48))
    have kH8 := k1.trans k18
    have dsame : ∀ (tt : Addr) H9, Keep [] H8 H9 → H9 tt = some (.tup [.ref D, .int (lastE 0 l : Int)]) → Da H9 (.tuple [.list ((l.map Prod.fst).map lD), .int (lastE 0 l : Int)]) (.ref t0) ∧ Da H9 (.tuple [.list ((l.map Prod.fst).map lD), .int (lastE 0 l : Int)]) (.ref tt) := by
      intro tt H9 k9 htt
      have k69 := k7.trans (k8.trans k9)
      have cv : ∀ {us : List V} {xs : List (List Int)}, Lsts H9 us xs → DaL H9 (xs.map lD) us := fun h => daL_pd (f := lD) (Val := fun x v => ∃ t, v = V.ref t ∧ H9 t = some (.lst (x.map V.int))) (fun _ _ ⟨t, e, h⟩ => by subst e; exact Da.lst h (DaL.ints _)) h
      exact ⟨Da.tup (k69.get ht0 (by simp)) (DaL.cons (Da.lst (k69.get hp0 (by simp)) (cv (hL0.mono k69))) (DaL.one Da.int)), Da.tup htt (DaL.cons (Da.lst (k9.get hD8 (by simp)) (cv (hrr.mono k69))) (DaL.one Da.int))⟩
    have hwid1 : wid (.tuple [.list ((l.map Prod.fst).map lD), .int (lastE 0 l : Int)]) ≤ 16777216 := by
      have h1 := widL_le (ds := (l.map Prod.fst).map lD) (n := 200000) (fun d hd => by
        obtain ⟨x, hx, rfl⟩ := List.mem_map.mp hd
        obtain ⟨z, hz, rfl⟩ := List.mem_map.mp hx
        have := (hR.recs z hz).1
        show max (z.1.map PyData.int).length (widL (z.1.map PyData.int)) ≤ _
        rw [widL_ints, List.length_map]; omega)
      simp only [wid, widL, List.length_map, List.length_cons, List.length_nil]; omega
    have hdep1 : dep (.tuple [.list ((l.map Prod.fst).map lD), .int (lastE 0 l : Int)]) ≤ 6 := by
      have h1 := depL_le (ds := (l.map Prod.fst).map lD) (n := 1) (fun d hd => by
        obtain ⟨x, hx, rfl⟩ := List.mem_map.mp hd
        show depL (x.map PyData.int) + 1 ≤ 1
        rw [depL_ints]; exact Nat.le_refl _)
      simp only [dep, depL]; omega
    have ha8 := k48.get ha4 (by simp)
    clear hD hrl7 hrv7 hrv6 k46 k7 k8 hem
    have fin : ∀ (tt : Addr) H9, Keep [] H8 H9 → H9 tt = some (.tup [.ref D, .int (lastE 0 l : Int)]) → ∃ d, Da H9 d (.ref t0) ∧ Da H9 d (.ref tt) ∧ dep d ≤ 6 ∧ wid d ≤ 16777216 := fun tt H9 k h => ⟨_, (dsame tt H9 k h).1, (dsame tt H9 k h).2, hdep1, hwid1⟩
    by_cases hnil : l = []
    · rw [decide_eq_true hnil]
      walk_at "r"
      intro tt H9 nt k9 htt
      obtain ⟨d, d1, d2, d3, d4⟩ := fin tt H9 k9 (by rw [htt, hnil]; rfl)
      walk_at "r"
      refine ⟨.ref t0, .ref tt, d, rfl, d1, d2, d3, d4, fun H10 k10 => ?_⟩
      walk_at "r"
      exact k48.trans (k9.trans k10)
    · rw [decide_eq_false hnil]
      obtain ⟨l0, z, hlz⟩ : ∃ l0 z, l = l0 ++ [z] := by
        rcases List.eq_nil_or_concat l with h | ⟨l0, z, h⟩
        · exact absurd h hnil
        · exact ⟨l0, z, by rw [h, List.concat_eq_append]⟩
      obtain ⟨us', v, hus⟩ : ∃ us' v, us = us' ++ [v] := by
        rcases List.eq_nil_or_concat us with h | ⟨l0, z, h⟩
        · rw [h, hlz] at hul; simp at hul
        · exact ⟨l0, z, by rw [h, List.concat_eq_append]⟩
      have hrv8' : Paired (fun v z => ∃ t r, v = V.ref t ∧ H8 t = some (.tup [.ref r, .int (z.2 : Int)]) ∧ H8 r = some (.lst (z.1.map V.int))) (us' ++ [v]) (l0 ++ [z]) := by rw [← hus, ← hlz]; exact hrv8
      obtain ⟨tz, rz, rfl, htz, _⟩ := pd_last hrv8'
      have hlast : atI us (-1) = some (.ref tz) := by rw [hus]; exact atI_last us' _
      walk_at "r"
      intro tt H9 nt k9 htt
      obtain ⟨d, d1, d2, d3, d4⟩ := fin tt H9 k9 (by rw [htt, hlz, lastE_last])
      walk_at "r"
      refine ⟨.ref t0, .ref tt, d, rfl, d1, d2, d3, d4, fun H10 k10 => ?_⟩
      walk_at "r"
      exact k48.trans (k9.trans k10)
    rintro σ' H5 ⟨rfl, k5⟩
    have ha5 := k5.get ha4 (by simp)
    have k25 := k2.trans (k3.trans (k4.trans k5))
    have k15 := k1.trans k25
    have k35 := k4.trans k5
    clear hc1 ha1 ha3 ha4 hrl hrv nrl
    cases ht : tell l with
    | none =>
      rw [ht] at hv1 hv2
      obtain rfl : v1 = .non := hv1
      obtain rfl : v2 = .non := hv2
      walk_at "r"
      exact q H5 k15
    | some y =>
    obtain ⟨tn, bss, n⟩ := y
    rw [ht] at hv1 hv2
    obtain ⟨td, S, usS, rfl, htd, hS, hP⟩ := hv1
    obtain ⟨tb, b, rfl, htb, hB⟩ := hv2
    have hw := tell_w hby hR ht
    have hne : bss ≠ [] := by
      obtain ⟨_, _, _, _, _, _, _, h, _⟩ := tell_some ht
      rw [h]; simp
    obtain ⟨bl0, bl, hbl⟩ : ∃ l0 z, bss = l0 ++ [z] := by
      rcases List.eq_nil_or_concat bss with h | ⟨l0, z, h⟩
      · exact absurd h hne
      · exact ⟨l0, z, by rw [h, List.concat_eq_append]⟩
    have hgl : bss.getLastD (0, []) = bl := by rw [hbl, List.getLastD_concat]
    rw [hgl] at hB
    have htd5 := k25.get htd (by simp)
    have hS5 := k25.get hS (by simp)
    have hP5 : Paired (fun v bs => vSt H5 bs v) usS bss := Paired.mapP hP fun _ _ h => h.mono k25
    have htb5 := k35.get htb (by simp)
    have hB5 := hB.mono k35
    obtain ⟨us0, vl, husS⟩ : ∃ us' v, usS = us' ++ [v] := by
      rcases List.eq_nil_or_concat usS with h | ⟨l0, z, h⟩
      · have := Paired.length hP5
        rw [h, hbl] at this; simp at this
      · exact ⟨l0, z, by rw [h, List.concat_eq_append]⟩
    subst husS
    subst hbl
    have hvl := pd_last hP5
    have hlast := atI_last us0 vl
    obtain ⟨hokw, hrowb⟩ := hw bl (by simp)
    clear htd hS hP htb hB k1 k2 k3 k4 k5 hgl
    walk_at "r"
    refine s_cut (fun σ' H' => σ' = [some (.ref a), some (.ref td), some (.ref tb), some (.ref rl), none, none, some (.int (tn : Int)), some (.ref S), some (.int (n : Int)), none, none, none] ∧ Keep [] H5 H') ?_ ?_
    · have tyx : TyX K H5 (.ref tb) (.type "tuple") := .base (.tup htb5)
      walk_at "i"
      walk_at "r"
      refine ite_ndec (fun h => absurd rfl h) (fun _ => ?_)
      walk_at "r"
      intro t1 H6 n6 k6 h6
      walk_at "r"
      intro t2 H7 n7 k7 h7
      walk_at "r"
      refine ⟨.ref t1, .ref t2, .tuple [.int (tn : Int), .int (n : Int)], rfl, Da.tup (k7.get h6 (by simp)) (DaL.cons Da.int (DaL.one Da.int)), Da.tup h7 (DaL.cons Da.int (DaL.one Da.int)), (show (max 0 (max 0 0)) + 1 ≤ 6 by decide), (show max 2 (max 0 (max 0 0)) ≤ 16777216 by decide), fun H8 k8 => ?_⟩
      walk_at "r"
      exact k6.trans (k7.trans k8)
    rintro σ' H6 ⟨rfl, k6⟩
    have ha6 := k6.get ha5 (by simp)
    have hS6 := k6.get hS5 (by simp)
    have hP6 : Paired (fun v bs => vSt H6 bs v) (us0 ++ [vl]) (bl0 ++ [bl]) := Paired.mapP hP5 fun _ _ h => h.mono k6
    have htb6 := k6.get htb5 (by simp)
    have hB6 := hB5.mono k6
    have hvl6 := hvl.mono k6
    have k16 := k15.trans k6
    clear ha5 hS5 hP5 htb5 hB5 hvl htd5 k6 k15 k25 k35
    obtain ⟨sl, rsl, rfl, hsl, hRl⟩ := hvl6
    obtain ⟨tsl, g1, g2, g3, _⟩ := hRl
    have htsl : tsl.length = 8 := by rw [Paired.length g3]; exact hokw.1
    refine s_cut (fun σ' H' => σ' = [some (.ref a), some (.ref td), some (.ref tb), some (.ref rl), none, none, some (.int (tn : Int)), some (.ref S), some (.int (n : Int)), none, none, none] ∧ Keep [] H6 H') ?_ ?_
    · obtain ⟨dxb, db, hbb, hbb2⟩ := hB6
      have hlk : (baF bl.1 db).lookup ("data" : Str) = none := lkBn (by decide +kernel) (by decide +kernel)
      walk_at "r"
      refine ⟨b, bl, rfl, ⟨dxb, db, hbb, hbb2⟩, hokw.1, fun w1 H7 k7 hw1 => ?_⟩
      have hS7 := k7.get hS6 (by simp)
      have hsl7 := k7.get hsl (by simp)
      have g17 := k7.get g1 (by simp)
      clear hbb
      walk_at "r"
      refine lcL (SqL.of g17) (fun D' i H' => Keep [] H7 H' ∧ ∃ us, H' D' = some (.lst us) ∧ Paired (fun v row => vRow H' row v) us (bl.2.take i)) (fun D' H2 nD k2 hD => ⟨k2, [], hD, by rw [List.take_zero]; exact .nil⟩) (fun D' i H' _ h => SqL.of (h.1.get g17 (by simp))) ?_ ?_
      · rintro D' i x H2' nD hx ⟨k2, us', hD', hda⟩
        rw [List.getElem?_map, Option.map_eq_some_iff] at hx
        obtain ⟨t, htt, rfl⟩ := hx
        obtain ⟨row, hrow, ws, hws, hp⟩ := pd_get g3 htt
        have hws2 := (k7.trans k2).get hws (by simp)
        have hil := (List.getElem?_eq_some_iff.mp htt).1
        have hul' := Paired.length hda
        rw [List.length_take] at hul'
        have hul8 : us'.length ≤ 8 := by omega
        walk_at "i"
        walk_at "r"
        intro tt H3' nt k3 ht3
        have hD3 := k3.get hD' (by simp)
        refine w_rApp hD3 (by rw [PySem.sizeLine_eq]; omega) fun H4' k4 h4' => ?_
        have k24 := k2.trans k3
        refine ⟨k24.mut nD k4, us' ++ [.ref tt], h4', ?_⟩
        rw [List.take_add_one, hrow]
        exact Paired.snoc (Paired.mapP hda fun _ _ h => (h.keep k3).keep k4) (vRow.keep ⟨tt, ws, rfl, ht3, Paired.mapP hp fun _ _ h => vD.keep h (k7.trans k24)⟩ k4)
      rintro D' H8 nD ⟨k8, us', hD', hda⟩
      rw [List.length_map, htsl, List.take_of_length_le (by rw [hokw.1]; exact Nat.le_refl _)] at hda
      walk_at "r"
      intro t2 H9 n9 k9 ht2
      walk_at "r"
      intro t3 H10 n10 k10 ht3
      have hda2 : Da H10 (pdBs bl) (.ref t3) := Da.tup ht3 (DaL.cons Da.int (DaL.one (Da.tup (k10.get ht2 (by simp)) (daL_pd (f := pdRow) (Val := fun row v => vRow H8 row v) (fun _ _ h => (vRow.keep h (k9.trans k10)).da) hda))))
      walk_at "r"
      refine ⟨w1, .ref t3, pdBs bl, rfl, Da.mono (k8.trans (k9.trans k10)).same _ _ hw1, hda2, dep_Bs _, Bs_wide hokw hrowb (by omega), fun H11 k11 => ?_⟩
      walk_at "r"
      exact k7.trans (k8.trans (k9.trans (k10.trans k11)))
    rintro σ' H7 ⟨rfl, k7⟩
    have ha7 := k7.get ha6 (by simp)
    have hS7 := k7.get hS6 (by simp)
    have hP7 : Paired (fun v bs => vSt H7 bs v) (us0 ++ [.ref sl]) (bl0 ++ [bl]) := Paired.mapP hP6 fun _ _ h => h.mono k7
    have k17 := k16.trans k7
    clear ha6 hS6 hP6 htb6 hB6 hsl g1 g2 g3 k16 k7 hlast
    walk_at "r"
    intro c3 H8 n8 k8 hc3
    walk_at "r"
    refine ⟨c3, ds, l, tn, n, bl0 ++ [bl], rfl, hc3, by omega, hby, hR, ht, fun w1 us1 H9 k9 hw1 hL1 => ?_⟩
    have k79 := k8.trans k9
    have hS9 := k79.get hS7 (by simp)
    have hP9 : Paired (fun v bs => vSt H9 bs v) (us0 ++ [.ref sl]) (bl0 ++ [bl]) := Paired.mapP hP7 fun _ _ h => h.mono k79
    have hbs : (bl0 ++ [bl]).length ≤ 200001 := by
      obtain ⟨z0, z1, z2, r, b0, e1, _, e2, _⟩ := tell_some ht
      have h1 := scan_len b0 z2.2 r
      have h2 := congrArg List.length e2
      have h3 := congrArg List.length e1
      simp only [List.length_cons] at h2 h3
      omega
    generalize us0 ++ [V.ref sl] = usS at hS9 hP9
    generalize bl0 ++ [bl] = bss at hP9 hL1 hbs hw
    have huslen : usS.length = bss.length := Paired.length hP9
    clear hc3 hS7 hP7 k8 k9 ha7
    walk_at "r"
    refine lcL (SqL.of hS9) (fun D i H' => Keep [] H9 H' ∧ ∃ us, H' D = some (.lst us) ∧ Lsts H' us ((bss.take i).map cnts)) (fun D H2 nD k2 hD => ⟨k2, [], hD, by rw [List.take_zero]; exact .nil⟩) (fun D i H' _ h => SqL.of (h.1.get hS9 (by simp))) ?_ ?_
    · rintro D i x H10 nD hx ⟨k10, us, hD, hL⟩
      obtain ⟨bs, hbs', s, rs, rfl, hs, ts, q1, q2, q3, _⟩ := pd_get hP9 hx
      have hs10 := k10.get hs (by simp)
      have q110 := k10.get q1 (by simp)
      have hil := (List.getElem?_eq_some_iff.mp hx).1
      have hul := hL.len
      rw [List.length_map, List.length_take] at hul
      have hus1 : us.length ≤ 200001 := by omega
      have htl : ts.length = bs.2.length := Paired.length q3
      have ht8 : bs.2.length = 8 := (hw bs (List.mem_of_getElem? hbs')).1.1
      walk_at "i"
      walk_at "r"
      refine lcL (SqL.of q110) (fun D' j H' => Keep [] H10 H' ∧ H' D' = some (.lst (((cnts bs).take j).map V.int))) (fun D' H2 nD k2 hD => ⟨k2, hD⟩) (fun D' j H' _ h => SqL.of (h.1.get q110 (by simp))) ?_ ?_
      · rintro D' j y H11 nD' hy ⟨k11, hD'⟩
        rw [List.getElem?_map, Option.map_eq_some_iff] at hy
        obtain ⟨t, htt, rfl⟩ := hy
        obtain ⟨row, hrow, ws, hws, hp⟩ := pd_get q3 htt
        have hws2 := (k10.trans k11).get hws (by simp)
        have hjl := (List.getElem?_eq_some_iff.mp htt).1
        have hacc : (((cnts bs).take j).map V.int).length ≤ 8 := by rw [List.length_map, List.length_take]; omega
        have hcj : (cnts bs)[j]? = some (row.length : Int) := by unfold cnts; rw [List.getElem?_map, hrow]; rfl
        walk_at "i"
        walk_at "r"
        rw [Paired.length hp]
        walk_at "r"
        intro H12 k12 h12
        refine ⟨k11.mut nD' k12, ?_⟩
        rw [h12, List.take_add_one, hcj, List.map_append]; rfl
      rintro D' H11 nD' ⟨k11, hD'⟩
      rw [List.length_map, htl, List.take_of_length_le (by unfold cnts; rw [List.length_map]; exact Nat.le_refl _)] at hD'
      have hD11 := k11.get hD (by simp)
      have nDD : D' ≠ D := Ne.symm (ne_of_none hD nD')
      walk_at "r"
      intro H12 k12 h12
      refine ⟨(k10.trans k11).mut nD k12, us ++ [.ref D'], h12, ?_⟩
      rw [List.take_add_one, hbs', List.map_append]
      exact Paired.snoc (Lsts.mut hD11 k12 (hL.mono k11)) ⟨D', rfl, k12.get hD' (by simp [nDD])⟩
    rintro D H10 nD ⟨k10, us, hD, hL⟩
    rw [huslen, List.take_length] at hL
    have cv : ∀ {Hx : Hp} {us : List V} {xs : List (List Int)}, Lsts Hx us xs → DaL Hx (xs.map lD) us := fun {Hx us xs} h => daL_pd (f := lD) (Val := fun x v => ∃ t, v = V.ref t ∧ Hx t = some (.lst (x.map V.int))) (fun _ _ ⟨t, e, h⟩ => by subst e; exact Da.lst h (DaL.ints _)) h
    walk_at "r"
    refine ⟨.ref w1, .ref D, .list ((bss.map cnts).map lD), rfl, Da.lst (k10.get hw1 (by simp)) (cv (hL1.mono k10)), Da.lst hD (cv hL), ?_, ?_, fun H11 k11 => q H11 (k17.trans (k79.trans (k10.trans k11)))⟩
    · have h1 := depL_le (ds := (bss.map cnts).map lD) (n := 1) (fun d hd => by
        obtain ⟨x, hx, rfl⟩ := List.mem_map.mp hd
        show depL (x.map PyData.int) + 1 ≤ 1
        rw [depL_ints]; exact Nat.le_refl _)
      simp only [dep]; omega
    · have h1 := widL_le (ds := (bss.map cnts).map lD) (n := 8) (fun d hd => by
        obtain ⟨x, hx, rfl⟩ := List.mem_map.mp hd
        obtain ⟨bs, hbs', rfl⟩ := List.mem_map.mp hx
        have := (hw bs hbs').1.1
        show max ((cnts bs).map PyData.int).length (widL ((cnts bs).map PyData.int)) ≤ _
        rw [widL_ints, List.length_map]
        unfold cnts
        rw [List.length_map]; omega)
      simp only [wid, List.length_map]; omega
end My

end
section
set_option maxHeartbeats 4000000
local macro_rules | `(tactic| walk_at "k") => `(tactic| first
  | assumption
  | exact W.Keep.trans (by assumption) (by assumption)
  | exact And.intro (by grind [W.Keep, W.Kp]) (by grind [W.Keep, W.Kt])
  | grind [W.Keep, W.Kp])
local macro_rules | `(tactic| walk_at "f") => `(tactic| first
  | assumption
  | exact L2.SqL.of (by assumption)
  | exact L2.SqT.of (by assumption)
  | exact L2.SqL.of L2.upd_same
  | exact L2.SqT.of L2.upd_same
  | exact L2.upd_same
  | exact W.carryL (by assumption) (by assumption)
  | exact W.carryL (by assumption) (by walk_at "k")
  | exact W.carryT (by assumption) (by walk_at "k")
  | exact W.carry (by assumption) (by grind [W.Keep, W.Kp])
  | exact L2.SqL.of (W.carry (by assumption) (by grind [W.Keep, W.Kp]))
  | exact L2.SqT.of (W.carry (by assumption) (by grind [W.Keep, W.Kp])))
local macro_rules | `(tactic| walk_at "a") => `(tactic| first
  | assumption
  | rfl)
local macro_rules | `(tactic| walk_at "n") => `(tactic| first
  | assumption
  | exact Nat.zero_le _
  | decide
  | (simp only [List.length_cons, List.length_nil]; decide)
  | omega
  | (simp only [PySem.sizeLine_eq]; omega)
  | (simp only [List.length_map, List.length_append, List.length_cons, List.length_nil, PySem.sizeLine_eq]; omega)
  | (simp only [List.length_map, List.length_append, List.length_cons, List.length_nil, List.length_take, List.length_drop, PySem.sizeLine_eq]; omega)
  | (simp only [List.length_map, List.length_append, List.length_cons, List.length_nil, PySem.sizeLine_eq] at *; omega))
local macro_rules | `(tactic| walk_at "c") => `(tactic| first
  | assumption
  | decide
  | exact And.intro (by decide) (by decide)
  | exact Or.inr (And.intro (by decide) (by decide))
  | exact Or.inl (And.intro (by decide) (by decide))
  | exact And.intro (by decide) (And.intro (by decide) (by decide))
  | exact (show (0 : Int) < _ by decide)
  | exact And.intro (by omega) (by omega)
  | exact Or.inl (And.intro (by omega) (by omega))
  | exact Or.inr (And.intro (by omega) (by omega))
  | exact (show (0 : Int) < _ by omega))
local macro_rules | `(tactic| walk_at "v") => `(tactic| with_reducible first
  | refine W.v0 ?_ | refine W.v1 ?_ | refine W.v2 ?_ | refine W.v3 ?_ | refine W.v4 ?_ | refine W.v5 ?_ | refine W.v6 ?_ | refine W.v7 ?_ | refine W.v8 ?_
  | refine W.v9 ?_ | refine W.v10 ?_ | refine W.v11 ?_ | refine W.v12 ?_ | refine W.v13 ?_ | refine W.v14 ?_ | refine W.v15 ?_ | refine W.v16 ?_ | refine W.v17 ?_
  | refine W.g0 ?_ | refine W.g1 ?_ | refine W.g2 ?_ | refine W.g3 ?_ | refine W.g4 ?_ | refine W.g5 ?_ | refine W.g6 ?_ | refine W.g7 ?_ | refine W.g8 ?_
  | refine W.g9 ?_ | refine W.g10 ?_ | refine W.g11 ?_ | refine W.g12 ?_ | refine W.g13 ?_ | refine W.g14 ?_ | refine W.g15 ?_)
local macro_rules | `(tactic| walk_at "e") => `(tactic| with_reducible first
  | refine W.e_c ?_ | refine W.e_op ?_ | refine W.s_seq ?_ | refine W.s_asg ?_ | refine W.e_CB ?_ | refine W.a_cons ?_ | refine W.a_nil ?_ | refine W.e_call ?_
  | refine W.t_test ?_ | refine W.w_B ?_ | refine W.s_if ?_ | refine W.s_ret ?_ | refine W.s_drop ?_ | refine W.e_un ?_ | refine W.e_fld ?_ | refine W.s_fld ?_
  | refine W.e_meth ?_ | refine W.e_if ?_ | refine W.e_lst ?_ | refine W.e_tup ?_ | refine W.e_sl ?_ | refine W.o_none ?_ | refine W.o_some ?_ | refine W.w_part ?_
  | refine W.e_bm ?_ | refine W.e_bm0 ?_ | refine W.t_B ?_ | refine W.t_and ?_ | refine W.t_or ?_ | refine W.t_not ?_ | refine W.e_andV ?_ | refine W.e_orV ?_ | refine W.e_notV ?_ | refine W.w_BV ?_ | refine W.e_chain ?_
  | refine W.s_aug ?_ | refine W.s_augS ?_ | refine W.s_next ?_ | refine W.s_brk ?_ | refine W.s_cont ?_ | refine W.s_retN ?_ | refine W.s_fa ?_ | refine W.e_make ?_ | refine W.w_make ?_
  | refine W.w_I0 ?_ | refine W.w_U ?_ | refine W.w_aug ?_ | refine W.w_eqI ?_ | refine W.w_neI ?_ | refine W.w_eqS ?_ | refine W.w_neS ?_ | refine W.w_eqB ?_ | refine W.w_neB ?_
  | refine W.w_int ?_ | refine W.w_intB ?_ | refine W.w_min ?_ | refine W.w_max ?_ | refine W.w_isN ?_ | refine W.w_isI ?_ | refine W.w_isS ?_ | refine W.w_isB ?_ | refine W.w_isR ?_
  | refine W.w_notN ?_ | refine W.w_notI ?_ | refine W.w_notR ?_ | refine W.w_notS ?_ | refine W.w_eqNI ?_ | refine W.w_neNI ?_ | refine W.w_eqN ?_ | refine W.w_neN ?_
  | refine W.s_forL ?_ | refine W.s_forT ?_ | refine W.s_forS ?_ | refine W.s_forR1 ?_ | refine W.s_forR2 ?_ | refine W.s_forR3 ?_ | refine W.s_forZ ?_ | refine W.s_forE ?_
  | refine W.e_lcL ?_ | refine W.e_lcT ?_ | refine W.w_ord ?_ | refine W.e_lcR1 ?_ | refine W.e_lcR2 ?_ | refine W.e_lcZ ?_ | refine W.e_lcS ?_ | refine W.t_yes ?_ | refine W.w_gcons ?_ | refine W.w_gnil ?_ | refine W.s_par ?_ | refine W.w_par ?_ | refine W.g_sub ?_ | refine W.e_m1 ?_ | refine W.w_strR ?_ | refine W.w_rAdd ?_ | refine W.w_rSub ?_ | refine W.s_raise ?_ | refine W.s_try ?_ | refine W.e_methS ?_ | refine W.e_callS ?_)
local macro_rules | `(tactic| walk_at "w") => `(tactic| first
  | ((with_reducible refine' W.w_I ?wh ?wq); (case wh => walk_at "c"))
  | ((with_reducible refine' W.w_ixL (n := 0) ?wh ?we ?wq); (case wh => walk_at "f"); (case we => walk_at "a"))
  | ((with_reducible refine' W.w_ixT (n := 0) ?wh ?we ?wq); (case wh => walk_at "f"); (case we => walk_at "a"))
  | ((with_reducible refine' W.w_lenL ?wh ?wq); (case wh => walk_at "f"))
  | ((with_reducible refine' W.w_lenT ?wh ?wq); (case wh => walk_at "f"))
  | ((with_reducible refine' W.w_lenS ?wh ?wq); (case wh => walk_at "n"))
  | ((with_reducible refine' W.w_app ?wh ?we ?wq); (case wh => walk_at "f"); (case we => walk_at "n"))
  | ((with_reducible refine' W.w_meth ?wh ?we ?wq); (case wh => walk_at "f"); (case we => first | assumption | rfl))
  | ((with_reducible refine' W.w_ixLTl ?wh ?we ?wq); (case wh => walk_at "f"); (case we => walk_at "a"))
  | ((with_reducible refine' W.w_ixLTt ?wh ?we ?wq); (case wh => walk_at "f"); (case we => walk_at "a"))
  | ((with_reducible refine' W.w_addS ?wh ?wq); (case wh => walk_at "n"))
  | ((with_reducible refine' W.w_set ?wh ?we ?wq); (case wh => walk_at "f"); (case we => walk_at "a"))
  | ((with_reducible refine' W.w_tup ?wh ?we ?wq); (case wh => walk_at "f"); (case we => first | assumption | rfl))
  | ((with_reducible refine' W.w_slS ?wh ?wq); (case wh => walk_at "n"))
  | ((with_reducible refine' W.w_rApp ?wh ?we ?wq); (case wh => walk_at "f"); (case we => walk_at "n"))
  | ((with_reducible refine' W.w_newL ?wh ?wq); (case wh => walk_at "n"))
  | ((with_reducible refine' W.w_newT ?wh ?wq); (case wh => walk_at "n"))
  | ((with_reducible refine' W.w_listL ?wh ?wq); (case wh => walk_at "f"))
  | ((with_reducible refine' W.w_tupL ?wh ?wq); (case wh => walk_at "f"))
  | ((with_reducible refine' W.w_slL ?wh ?wq); (case wh => walk_at "f"))
  | ((with_reducible refine' W.w_cat ?wh ?wf ?we ?wq); (case wh => walk_at "f"); (case wf => walk_at "f"); (case we => walk_at "n"))
  | ((with_reducible refine' W.w_catT ?wh ?wf ?wx ?wy ?we ?wq); (case wh => walk_at "f"); (case wf => walk_at "f"); (case wx => exact List.cons_ne_nil _ _); (case wy => exact List.cons_ne_nil _ _); (case we => walk_at "n"))
  | ((with_reducible refine' W.w_ext ?wh ?wf ?we ?wq); (case wh => walk_at "f"); (case wf => walk_at "f"); (case we => walk_at "n"))
  | ((with_reducible refine' W.w_recv ?wh ?wq); (case wh => walk_at "f"))
  | ((with_reducible refine' W.w_isi1 ?wh ?we ?wq); (case wh => assumption); (case we => decide +kernel))
  | ((with_reducible refine' W.w_isi0 ?wh ?we ?wq); (case wh => assumption); (case we => decide +kernel))
  | ((with_reducible refine' W.w_isiT10 ?wh ?wf ?we ?wg ?wq); (case wh => assumption); (case wf => walk_at "f"); (case we => decide +kernel); (case wg => decide +kernel))
  | ((with_reducible refine' W.w_isiT01 ?wh ?wf ?we ?wg ?wq); (case wh => assumption); (case wf => walk_at "f"); (case we => decide +kernel); (case wg => decide +kernel))
  | ((with_reducible refine' W.w_isiT00 ?wh ?wf ?we ?wg ?wq); (case wh => assumption); (case wf => walk_at "f"); (case we => decide +kernel); (case wg => decide +kernel))
  | ((with_reducible refine' W.w_ins ?wh ?we ?wf ?wq); (case wh => walk_at "f"); (case we => walk_at "n"); (case wf => walk_at "c"))
  | ((with_reducible refine' W.w_unl ?wh ?we ?wq); (case wh => walk_at "f"); (case we => first | assumption | rfl))
  | ((with_reducible refine' W.ite_T ?_))
  | ((with_reducible refine' W.ite_F ?_))
  | ((with_reducible refine' W.ite_nT ?_))
  | ((with_reducible refine' W.ite_nF ?_))
  | ((with_reducible refine' W.ite_self ?_))
  | ((with_reducible refine' W.ite_nself ?_))
  | ((with_reducible refine' W.ite_tf ?_))
  | ((with_reducible refine' W.ite_ft ?_))
  | ((with_reducible refine' W.ite_ntf ?_))
  | ((with_reducible refine' W.ite_nft ?_))
  | ((with_reducible refine' And.intro ?wl ?wq); (case wl => rfl)))
local macro_rules | `(tactic| walk_at "i") => `(tactic| try (dsimp only [L2.cxOf, L2.wipe, List.map, List.set]))
local macro_rules | `(tactic| walk_at "s") => `(tactic| first | walk_at "v" | walk_at "e" | walk_at "w")
local macro_rules | `(tactic| walk_at "r") => `(tactic| repeat walk_at "s")

namespace My
open PySem L2 W
variable {P : Program} {w : World} {K : PySem.W.Frag} {mg : Str → Option Value} {base : Heap} {A : Adr}
def dueV (x y : Option (Nat × List Bs × Nat)) : V := cfV x y
theorem cfV_da {H : Hp} (x y : Option (Nat × List Bs × Nat)) : ∃ d, Da H d (cfV x y) ∧ dep d ≤ 6 ∧ wid d ≤ 16777216 := by
  cases x with
  | none =>
    cases y with
    | none => exact ⟨.none, Da.non, by decide, by decide⟩
    | some y => exact ⟨.int 1, Da.int, by decide, by decide⟩
  | some x =>
    cases y with
    | none => exact ⟨.int 0, Da.int, by decide, by decide⟩
    | some y =>
      show ∃ d, Da H d (if x.1 < y.1 then V.int 1 else V.int 0) ∧ _
      split
      · exact ⟨.int 1, Da.int, by decide, by decide⟩
      · exact ⟨.int 0, Da.int, by decide, by decide⟩
def sp_law (K : PySem.W.Frag) : Sp := fun vs H Q _ => ∃ (s : Addr) (ns : List Int), vs = [.ref s] ∧ SqL K H s (ns.map V.int) ∧ ns.length ≤ 63 ∧ ∀ H', Q (.bl true) H'
theorem ok_law (e : Env K mg A) : FnOk P w K mg base CX0 11 A.f_law A.d_law ["script"] (sp_law K) := by
  have G__law_next := ok__law_next (P := P) (w := w) (base := base) e
  have G__law_same := ok__law_same (P := P) (w := w) (base := base) e 7
  have G__law_file := ok__law_file (P := P) (w := w) (base := base) e
  have G__law_is_told := ok__law_is_told (P := P) (w := w) (base := base) e
  have G__law_tells := ok__law_tells (P := P) (w := w) (base := base) e
  have G__law_sum := ok__law_sum (P := P) (w := w) (base := base) e
  have G__law_record := ok__law_record (P := P) (w := w) (base := base) e
  have G_checksum := ok_checksum (P := P) (w := w) (base := base) e
  have G_write_record := ok_write_record (P := P) (w := w) (base := base) e
  have G_counting_file := ok_counting_file (P := P) (w := w) (base := base) e
  refine e.F_law.ok sc_law (fun vs H Q E h => ?_) (fun cdv AA outer s H vs Q E hr h => ?_)
  · obtain ⟨c, ns, rfl, _⟩ := h
    rfl
  · obtain ⟨c0, ns, rfl, hS, hlen, q⟩ := h
    refine ⟨_, (pss_cons (ps_set (i := 1) sc_law.nd rfl (Or.inr rfl) (pe_lst (pa_cons (pe_callTy (call_listLK (K := K)) (by rfl) e.n_list (by decide +kernel) (pa_cons (pv 0) pa_nil)) (pa_cons pe_int (pa_cons pe_int (pa_cons pe_int pa_nil))))))
    (pss_cons (ps_set (i := 2) sc_law.nd rfl (Or.inl rfl) (pe_lst pa_nil))
    (pss_cons (ps_for PassesOwn.never rfl (pi_range1 rfl e.n_range (pa_cons pe_int pa_nil)) (pg_name (i := 3) sc_law.nd rfl (Or.inl rfl)) (pss_cons (ps_set (i := 4) sc_law.nd rfl (Or.inl rfl) (pe_call G__law_file (hr.mono (by omega)) (by rfl) e.m__law_file e.k__law_file e.b__law_file .nil pass0 (pa_cons (pv 1) pa_nil)))
    (pss_cons (ps_if (PW.pt (pw_or (pt_cmpR op_isNo (pv 4) pe_non (nomark _)) (pw_or1 (pt_not (pt_val (pe_call G__law_is_told (hr.mono (by omega)) (by rfl) e.m__law_is_told e.k__law_is_told e.b__law_is_told .nil pass0 (pa_cons (pv 4) pa_nil))))))) (pss_one (ps_ret pe_bl)) pss_nil)
    (pss_one (ps_expr (pe_bmK (K := K) PySem.F.plainAttrs_list PySem.F.slot_list_append PySem.F.type_list_append mt_append (pv 2) (pa_cons (pv 4) pa_nil)))))))
    (pss_cons (ps_setLc (i := 5) (own := [("k", 3)]) (by rfl) sc_law.nd rfl rfl (sw_true rfl rfl rfl (by decide +kernel)) (pi_range1 rfl e.n_range (pa_cons (pe_call G__law_next (hr.mono (by omega)) (by rfl) e.m__law_next e.k__law_next e.b__law_next .nil pass0 (pa_cons (pv 1) (pa_cons pe_int pa_nil))) pa_nil)) (blkOk_by (own := [("k", 3)]) (N := nm_law) (sc := defScope s_law) (by decide +kernel)) (fun _ _ _ _ _ => (pg_name (i := 3) sc_law.nd rfl (Or.inl rfl))) (fun _ _ _ _ _ => pts_nil) (fun _ _ _ _ _ => (pe_call G__law_next (hr.mono (by omega)) (by rfl) e.m__law_next e.k__law_next e.b__law_next .nil pass0 (pa_cons (pv 1) (pa_cons pe_int pa_nil)))))
    (Evl.pss_cut (ps_if (PW.pt (pw_or (pt_not (pt_val (pe_call G__law_same (hr.mono (by omega)) (by rfl) e.m__law_same e.k__law_same e.b__law_same .nil pass0 (pa_cons (pe_call G_checksum (hr.mono (by omega)) (by rfl) e.m_checksum e.k_checksum e.b_checksum .nil pass0 (pa_cons (pe_callTy (call_listLK (K := K)) (by rfl) e.n_list (by decide +kernel) (pa_cons (pv 5) pa_nil)) pa_nil)) (pa_cons (pe_call G__law_sum (hr.mono (by omega)) (by rfl) e.m__law_sum e.k__law_sum e.b__law_sum .nil pass0 (pa_cons (pv 5) pa_nil)) pa_nil))))) (pw_or1 (pt_not (pt_val (pe_call G__law_same (hr.mono (by omega)) (by rfl) e.m__law_same e.k__law_same e.b__law_same .nil pass0 (pa_cons (pe_call G_write_record (hr.mono (by omega)) (by rfl) e.m_write_record e.k_write_record e.b_write_record .nil pass0 (pa_cons (pe_callTy (call_listLK (K := K)) (by rfl) e.n_list (by decide +kernel) (pa_cons (pv 5) pa_nil)) pa_nil)) (pa_cons (pe_call G__law_record (hr.mono (by omega)) (by rfl) e.m__law_record e.k__law_record e.b__law_record .nil pass0 (pa_cons (pv 5) pa_nil)) pa_nil)))))))) (pss_one (ps_ret pe_bl)) pss_nil)
    (pss_cons (ps_set (i := 6) sc_law.nd rfl (Or.inl rfl) (pe_call G__law_tells (hr.mono (by omega)) (by rfl) e.m__law_tells e.k__law_tells e.b__law_tells .nil pass0 (pa_cons (pe_ix (ix_listK (K := K)) (pv 2) pe_int (fun _ _ => rfl)) pa_nil)))
    (pss_cons (ps_set (i := 7) sc_law.nd rfl (Or.inl rfl) (pe_call G__law_tells (hr.mono (by omega)) (by rfl) e.m__law_tells e.k__law_tells e.b__law_tells .nil pass0 (pa_cons (pe_ix (ix_listK (K := K)) (pv 2) pe_int (fun _ _ => rfl)) pa_nil)))
    (pss_cons (ps_set (i := 8) sc_law.nd rfl (Or.inl rfl) pe_non)
    (pss_cons (ps_if (PW.pt (pw_or (pt_cmpR op_isNot (pv 6) pe_non (nomark _)) (pw_or1 (pt_cmpR op_isNot (pv 7) pe_non (nomark _))))) (pss_one (ps_set (i := 8) sc_law.nd rfl (Or.inl rfl) (pe_ifExp (PW.pt (pw_or (pt_cmpR op_isNo (pv 7) pe_non (nomark _)) (pw_or1 (PW.pt (pw_and (pt_cmpR op_isNot (pv 6) pe_non (nomark _)) (pw_and1 (pt_cmpR op_ge (pe_ix (ix_tupK (K := K)) (pv 6) pe_int (fun _ _ => rfl)) (pe_ix (ix_tupK (K := K)) (pv 7) pe_int (fun _ _ => rfl)) (nomark _)))))))) pe_int pe_int))) pss_nil)
    (pss_one (ps_ret (pe_call G__law_same (hr.mono (by omega)) (by rfl) e.m__law_same e.k__law_same e.b__law_same .nil pass0 (pa_cons (pe_call G_counting_file (hr.mono (by omega)) (by rfl) e.m_counting_file e.k_counting_file e.b_counting_file .nil pass0 (pa_cons (pe_callTy (call_listLK (K := K)) (by rfl) e.n_list (by decide +kernel) (pa_cons (pe_ix (ix_listK (K := K)) (pv 2) pe_int (fun _ _ => rfl)) pa_nil)) (pa_cons (pe_callTy (call_listLK (K := K)) (by rfl) e.n_list (by decide +kernel) (pa_cons (pe_ix (ix_listK (K := K)) (pv 2) pe_int (fun _ _ => rfl)) pa_nil)) pa_nil))) (pa_cons (pv 8) pa_nil)))))))))))))), ?_⟩
    refine enter (st_law _) ?_
    walk_at "i"
    walk_at "r"
    intro c H1 nc k1 hc
    walk_at "r"
    intro a H2 na k2 ha
    have D2 : Drw a c ns H2 := ⟨0, 0, 1, by omega, ha, k2.get hc (by simp)⟩
    clear ha hc k1 k2 hS nc na
    walk_at "r"
    intro F H3 nF k3 hF
    have D3 := D2.more k3
    have nFa := D2.fre nF
    clear D2 k3 nF
    walk_at "r"
    refine forR1 (by omega) (by omega) (fun i σ H' => ∃ (v3 v4 : Option V) (us : List V) (xs : List (List Int)), σ = [some (.ref c0), some (.ref a), some (.ref F), v3, v4, none, none, none, none] ∧ Drw a c ns H' ∧ H' F = some (.lst us) ∧ Lsts H' us xs ∧ xs.length = i ∧ (∀ x ∈ xs, by8 x ∧ x.length ≤ 200000) ∧ F ∉ (us.filterMap fun v => match v with | .ref t => some t | _ => none))
      ⟨_, _, [], [], rfl, D3, hF, .nil, rfl, by simp, by simp⟩ ?_ ?_
    · rintro i σ H4 hi ⟨v3, v4, us, xs, rfl, D4, hF4, hL4, hxl, hxs, hFn⟩
      have hul := hL4.len
      walk_at "r"
      refine ⟨a, c, ns, rfl, D4, fun p es H5 np k5 D5 hp hes hel => ?_⟩
      have hF5 := k5.get hF4 (by simp [nFa.1])
      have hL5 : Lsts H5 us xs := Paired.mapP hL4 fun v xx ⟨t, e', hq⟩ => ⟨t, e', k5.get hq (by
        intro z
        rw [List.mem_singleton] at z
        subst z
        obtain ⟨_, _, _, _, h, _⟩ := D4
        rw [h] at hq
        cases xx with
        | nil => cases hq
        | cons y r => cases hq)⟩
      have nFp : F ≠ p := ne_of_none hF4 np
      clear hF4 hL4 D4 k5
      walk_at "r"
      refine ⟨p, es, rfl, hp, hel, hes, fun H6 k6 => ?_⟩
      have hF6 := k6.get hF5 (by simp)
      have hp6 := k6.get hp (by simp)
      walk_at "r"
      intro H7 k7 h7
      refine ⟨_, _, us ++ [.ref p], xs ++ [es], rfl, (D5.more k6).mut k7 nFa, h7, Paired.snoc (Lsts.mut hF6 k7 (hL5.mono k6)) ⟨p, rfl, k7.get hp6 (by simp [Ne.symm nFp])⟩, by rw [List.length_append, hxl]; rfl, ?_, ?_⟩
      · intro x hx
        rcases List.mem_append.mp hx with hx | hx
        · exact hxs x hx
        · rw [List.mem_singleton] at hx; rw [hx]; exact ⟨hes, hel⟩
      · rw [List.filterMap_append]
        intro z
        rcases List.mem_append.mp z with z | z
        · exact hFn z
        · simp at z; exact nFp z
    rintro σ H4 ⟨v3, v4, us, xs, rfl, D4, hF4, hL4, hxl, hxs, hFn⟩
    obtain ⟨x0, x1, rfl⟩ : ∃ x0 x1, xs = [x0, x1] := by
      match xs, hxl with
      | [x0, x1], _ => exact ⟨x0, x1, rfl⟩
    obtain ⟨f0, f1, rfl, hf0, hf1⟩ : ∃ f0 f1, us = [.ref f0, .ref f1] ∧ H4 f0 = some (.lst (x0.map V.int)) ∧ H4 f1 = some (.lst (x1.map V.int)) := by
      unfold Lsts at hL4
      cases hL4 with
      | cons h0 h =>
        cases h with
        | cons h1 h =>
          cases h
          obtain ⟨t0, rfl, e0⟩ := h0
          obtain ⟨t1, rfl, e1⟩ := h1
          exact ⟨t0, t1, rfl, e0, e1⟩
    have g0 := hxs x0 (by simp)
    have g1 := hxs x1 (by simp)
    clear hL4 hxl hxs hFn
    walk_at "r"
    refine ⟨a, c, ns, 30, rfl, D4, by decide, by decide, fun y H5 y0 y1 k5 D5 => ?_⟩
    have hF5 := k5.get hF4 (by simp [nFa.1])
    have nf : ∀ (t : Addr) (x : List Int) (Hx : Hp), Drw a c ns Hx → Hx t = some (.lst (x.map V.int)) → t ≠ a := fun t x Hx D h z => by
      subst z
      obtain ⟨_, _, _, _, h2, _⟩ := D
      rw [h2] at h
      cases x with
      | nil => cases h
      | cons y r => cases h
    have n0a := nf _ _ _ D4 hf0
    have n1a := nf _ _ _ D4 hf1
    have hf05 := k5.get hf0 (by simp [n0a])
    have hf15 := k5.get hf1 (by simp [n1a])
    clear hF4 hf0 hf1 D4 k5
    walk_at "r"
    refine lcR1 (by omega) (by omega) (fun L i H' => Keep [a] H5 H' ∧ Drw a c ns H' ∧ ∃ es : List Int, H' L = some (.lst (es.map V.int)) ∧ es.length = i)
      (fun L H6 nL k6 hL => ⟨k6.any, D5.more k6, [], hL, rfl⟩) ?_ ?_
    · rintro L i H6 nL hi ⟨k6, D6, es, hL6, hl⟩
      have hLa := D5.fre nL
      walk_at "i"
      walk_at "r"
      refine ⟨a, c, ns, 256, rfl, D6, by decide, by decide, fun y H7 y0 y1 k7 D7 => ?_⟩
      have hL7 := k7.get hL6 (by simp [hLa.1])
      walk_at "r"
      intro H8 k8 h8
      exact ⟨(k6.trans k7).mut nL k8, D7.mut k8 hLa, es ++ [y], by rw [h8, List.map_append]; rfl, by rw [List.length_append, hl]; rfl⟩
    rintro L H6 nL ⟨k6, D6, es, hL6, hl⟩
    have hF6 := k6.get hF5 (by simp [nFa.1])
    have hf06 := k6.get hf05 (by simp [n0a])
    have hf16 := k6.get hf15 (by simp [n1a])
    clear hF5 hf05 hf15 D5 k6 nL
    walk_at "r"
    refine s_cut (fun σ' H' => σ' = [some (.ref c0), some (.ref a), some (.ref F), v3, v4, some (.ref L), none, none, none] ∧ Keep [] H6 H') ?_ ?_
    · walk_at "i"
      walk_at "r"
      intro c1 H7 n7 k7 hc1
      walk_at "r"
      refine ⟨c1, es, rfl, hc1, ?_⟩
      have hL7 := k7.get hL6 (by simp)
      walk_at "r"
      refine ⟨L, es, rfl, hL7, ?_⟩
      walk_at "r"
      refine ⟨_, _, .int (ck es), rfl, Da.int, Da.int, Nat.zero_le _, Nat.zero_le _, fun H8 k8 => ?_⟩
      have hL8 := k8.get hL7 (by simp)
      walk_at "r"
      intro c2 H9 n9 k9 hc2
      walk_at "r"
      refine ⟨c2, es, rfl, hc2, by omega, fun p1 H10 n10 k10 hp1 => ?_⟩
      have hL10 := (k9.trans k10).get hL8 (by simp)
      walk_at "r"
      refine ⟨L, es, rfl, hL10, by omega, fun p2 H11 n11 k11 hp2 => ?_⟩
      have hrl := rec_len es
      have hwn := wn_len3 (n := es.length) (by omega)
      walk_at "r"
      refine ⟨.ref p1, .ref p2, lD (My.rec es), rfl, Da.lst (k11.get hp1 (by simp)) (DaL.ints _), Da.lst hp2 (DaL.ints _), lD_dep _, lD_wid (by omega), fun H12 k12 => ?_⟩
      walk_at "r"
      exact k7.trans (k8.trans (k9.trans (k10.trans (k11.trans k12))))
    rintro σ' H7 ⟨rfl, k7⟩
    have hF7 := k7.get hF6 (by simp)
    have hf07 := k7.get hf06 (by simp)
    have hf17 := k7.get hf16 (by simp)
    obtain ⟨l0, R0⟩ := Re.ex x0 (x0.length + 1) 0 (by omega)
    obtain ⟨l1, R1⟩ := Re.ex x1 (x1.length + 1) 0 (by omega)
    have at0 : atI [V.ref f0, V.ref f1] 0 = some (.ref f0) := rfl
    have at1 : atI [V.ref f0, V.ref f1] 1 = some (.ref f1) := rfl
    clear hF6 hf06 hf16 k7 hL6
    walk_at "r"
    refine ⟨f0, x0, l0, rfl, hf07, by omega, g0.1, R0, fun v6 H8 k8 hv6 => ?_⟩
    have hF8 := k8.get hF7 (by simp)
    have hf08 := k8.get hf07 (by simp)
    have hf18 := k8.get hf17 (by simp)
    clear hF7 hf07 hf17
    walk_at "r"
    refine ⟨f1, x1, l1, rfl, hf18, by omega, g1.1, R1, fun v7 H9 k9 hv7 => ?_⟩
    have hF9 := k9.get hF8 (by simp)
    have hf09 := k9.get hf08 (by simp)
    have hf19 := k9.get hf18 (by simp)
    clear hF8 hf08 hf18
    cases h0 : tell l0 with
    | none =>
      rw [h0] at hv6
      obtain rfl : v6 = .non := hv6
      cases h1 : tell l1 with
      | none =>
        rw [h1] at hv7
        obtain rfl : v7 = .non := hv7
        walk_at "r"
        intro c1 H11 n11 k11 h11
        have hF11 := k11.get hF9 (by simp)
        have hf111 := k11.get hf19 (by simp)
        walk_at "r"
        intro c2 H12 n12 k12 h12
        walk_at "r"
        refine ⟨c1, c2, x0, x1, l0, l1, rfl, k12.get h11 (by simp), by omega, g0.1, R0, h12, by omega, g1.1, R1, fun H13 k13 => ?_⟩
        rw [h0, h1]
        walk_at "r"
        exact ⟨_, _, .none, rfl, Da.non, Da.non, Nat.zero_le _, Nat.zero_le _, fun H14 _ => q _⟩
      | some y =>
        obtain ⟨t1, b1, m1⟩ := y
        rw [h1] at hv7
        obtain ⟨u1, S1, us1, rfl, hu1, _⟩ := hv7
        walk_at "r"
        intro c1 H11 n11 k11 h11
        have hF11 := k11.get hF9 (by simp)
        have hf111 := k11.get hf19 (by simp)
        walk_at "r"
        intro c2 H12 n12 k12 h12
        walk_at "r"
        refine ⟨c1, c2, x0, x1, l0, l1, rfl, k12.get h11 (by simp), by omega, g0.1, R0, h12, by omega, g1.1, R1, fun H13 k13 => ?_⟩
        rw [h0, h1]
        walk_at "r"
        exact ⟨_, _, .int 1, rfl, Da.int, Da.int, Nat.zero_le _, Nat.zero_le _, fun H14 _ => q _⟩
    | some x =>
      obtain ⟨t0, b0, m0⟩ := x
      rw [h0] at hv6
      obtain ⟨u0, S0, us0, rfl, hu0, _⟩ := hv6
      have hu09 := k9.get hu0 (by simp)
      cases h1 : tell l1 with
      | none =>
        rw [h1] at hv7
        obtain rfl : v7 = .non := hv7
        walk_at "r"
        intro c1 H11 n11 k11 h11
        have hF11 := k11.get hF9 (by simp)
        have hf111 := k11.get hf19 (by simp)
        walk_at "r"
        intro c2 H12 n12 k12 h12
        walk_at "r"
        refine ⟨c1, c2, x0, x1, l0, l1, rfl, k12.get h11 (by simp), by omega, g0.1, R0, h12, by omega, g1.1, R1, fun H13 k13 => ?_⟩
        rw [h0, h1]
        walk_at "r"
        exact ⟨_, _, .int 0, rfl, Da.int, Da.int, Nat.zero_le _, Nat.zero_le _, fun H14 _ => q _⟩
      | some y =>
        obtain ⟨t1, b1, m1⟩ := y
        rw [h1] at hv7
        obtain ⟨u1, S1, us1, rfl, hu1, _⟩ := hv7
        walk_at "r"
        refine ite_dec (fun hge => ?_) (fun hge => ?_)
        · walk_at "r"
          intro c1 H11 n11 k11 h11
          have hF11 := k11.get hF9 (by simp)
          have hf111 := k11.get hf19 (by simp)
          walk_at "r"
          intro c2 H12 n12 k12 h12
          walk_at "r"
          refine ⟨c1, c2, x0, x1, l0, l1, rfl, k12.get h11 (by simp), by omega, g0.1, R0, h12, by omega, g1.1, R1, fun H13 k13 => ?_⟩
          rw [h0, h1]
          have ecf : cfV (some (t0, b0, m0)) (some (t1, b1, m1)) = .int 0 := by show (if t0 < t1 then V.int 1 else V.int 0) = _; rw [if_neg (by omega)]
          rw [ecf]
          walk_at "r"
          exact ⟨_, _, .int 0, rfl, Da.int, Da.int, Nat.zero_le _, Nat.zero_le _, fun H14 _ => q _⟩
        · walk_at "r"
          intro c1 H11 n11 k11 h11
          have hF11 := k11.get hF9 (by simp)
          have hf111 := k11.get hf19 (by simp)
          walk_at "r"
          intro c2 H12 n12 k12 h12
          walk_at "r"
          refine ⟨c1, c2, x0, x1, l0, l1, rfl, k12.get h11 (by simp), by omega, g0.1, R0, h12, by omega, g1.1, R1, fun H13 k13 => ?_⟩
          rw [h0, h1]
          have ecf : cfV (some (t0, b0, m0)) (some (t1, b1, m1)) = .int 1 := by show (if t0 < t1 then V.int 1 else V.int 0) = _; rw [if_pos (by omega)]
          rw [ecf]
          walk_at "r"
          exact ⟨_, _, .int 1, rfl, Da.int, Da.int, Nat.zero_le _, Nat.zero_le _, fun H14 _ => q _⟩
end My

end
section
set_option maxHeartbeats 8000000
namespace My
open PySem L2 W
theorem all_mk {K : PySem.W.Frag} {h : Heap} {mg : Str → Option Value} {fa : Addr} (X : K.In h) (G : h.Ns mainGlobals mg) (hfa : mg "law" = some (.ref fa))
    {C_Deeds : Addr}
    {C_PlanwholeError : Addr}
    {C_DamagedPacket : Addr}
    {C_Reader : Addr}
    {C_Base : Addr}
    {od0 an0 : Option Addr} {sl0 : Array (Option Value)} {oc0 kV0 dc0 pm0 cd0 ct0 : Value} {f0 : Addr}
    {od1 an1 : Option Addr} {sl1 : Array (Option Value)} {oc1 kV1 dc1 pm1 cd1 ct1 : Value} {f1 : Addr}
    {od2 an2 : Option Addr} {sl2 : Array (Option Value)} {oc2 kV2 dc2 pm2 cd2 ct2 : Value} {f2 : Addr}
    {od3 an3 : Option Addr} {sl3 : Array (Option Value)} {oc3 kV3 dc3 pm3 cd3 ct3 : Value} {f3 : Addr}
    {od4 an4 : Option Addr} {sl4 : Array (Option Value)} {oc4 kV4 dc4 pm4 cd4 ct4 : Value} {f4 : Addr}
    {od5 an5 : Option Addr} {sl5 : Array (Option Value)} {oc5 kV5 dc5 pm5 cd5 ct5 : Value} {f5 : Addr}
    {od6 an6 : Option Addr} {sl6 : Array (Option Value)} {oc6 kV6 dc6 pm6 cd6 ct6 : Value} {f6 : Addr}
    {od7 an7 : Option Addr} {sl7 : Array (Option Value)} {oc7 kV7 dc7 pm7 cd7 ct7 : Value} {f7 : Addr}
    {od8 an8 : Option Addr} {sl8 : Array (Option Value)} {oc8 kV8 dc8 pm8 cd8 ct8 : Value} {f8 : Addr}
    {od9 an9 : Option Addr} {sl9 : Array (Option Value)} {oc9 kV9 dc9 pm9 cd9 ct9 : Value} {f9 : Addr}
    {od10 an10 : Option Addr} {sl10 : Array (Option Value)} {oc10 kV10 dc10 pm10 cd10 ct10 : Value} {f10 : Addr}
    {od11 an11 : Option Addr} {sl11 : Array (Option Value)} {oc11 kV11 dc11 pm11 cd11 ct11 : Value} {f11 : Addr}
    {od12 an12 : Option Addr} {sl12 : Array (Option Value)} {oc12 kV12 dc12 pm12 cd12 ct12 : Value} {f12 : Addr}
    {od13 an13 : Option Addr} {sl13 : Array (Option Value)} {oc13 kV13 dc13 pm13 cd13 ct13 : Value} {f13 : Addr}
    {od14 an14 : Option Addr} {sl14 : Array (Option Value)} {oc14 kV14 dc14 pm14 cd14 ct14 : Value} {f14 : Addr}
    {od15 an15 : Option Addr} {sl15 : Array (Option Value)} {oc15 kV15 dc15 pm15 cd15 ct15 : Value} {f15 : Addr}
    {od16 an16 : Option Addr} {sl16 : Array (Option Value)} {oc16 kV16 dc16 pm16 cd16 ct16 : Value} {f16 : Addr}
    {od17 an17 : Option Addr} {sl17 : Array (Option Value)} {oc17 kV17 dc17 pm17 cd17 ct17 : Value} {f17 : Addr}
    {od18 an18 : Option Addr} {sl18 : Array (Option Value)} {oc18 kV18 dc18 pm18 cd18 ct18 : Value} {f18 : Addr}
    {od19 an19 : Option Addr} {sl19 : Array (Option Value)} {oc19 kV19 dc19 pm19 cd19 ct19 : Value} {f19 : Addr}
    {od20 an20 : Option Addr} {sl20 : Array (Option Value)} {oc20 kV20 dc20 pm20 cd20 ct20 : Value} {f20 : Addr}
    {od21 an21 : Option Addr} {sl21 : Array (Option Value)} {oc21 kV21 dc21 pm21 cd21 ct21 : Value} {f21 : Addr}
    {od22 an22 : Option Addr} {sl22 : Array (Option Value)} {oc22 kV22 dc22 pm22 cd22 ct22 : Value} {f22 : Addr}
    {od23 an23 : Option Addr} {sl23 : Array (Option Value)} {oc23 kV23 dc23 pm23 cd23 ct23 : Value} {f23 : Addr}
    {od24 an24 : Option Addr} {sl24 : Array (Option Value)} {oc24 kV24 dc24 pm24 cd24 ct24 : Value} {f24 : Addr}
    {od25 an25 : Option Addr} {sl25 : Array (Option Value)} {oc25 kV25 dc25 pm25 cd25 ct25 : Value} {f25 : Addr}
    {od26 an26 : Option Addr} {sl26 : Array (Option Value)} {oc26 kV26 dc26 pm26 cd26 ct26 : Value} {f26 : Addr}
    {od27 an27 : Option Addr} {sl27 : Array (Option Value)} {oc27 kV27 dc27 pm27 cd27 ct27 : Value} {f27 : Addr}
    {od28 an28 : Option Addr} {sl28 : Array (Option Value)} {oc28 kV28 dc28 pm28 cd28 ct28 : Value} {f28 : Addr}
    {od29 an29 : Option Addr} {sl29 : Array (Option Value)} {oc29 kV29 dc29 pm29 cd29 ct29 : Value} {f29 : Addr}
    {od30 an30 : Option Addr} {sl30 : Array (Option Value)} {oc30 kV30 dc30 pm30 cd30 ct30 : Value} {f30 : Addr}
    {od31 an31 : Option Addr} {sl31 : Array (Option Value)} {oc31 kV31 dc31 pm31 cd31 ct31 : Value} {f31 : Addr}
    {od32 an32 : Option Addr} {sl32 : Array (Option Value)} {oc32 kV32 dc32 pm32 cd32 ct32 : Value} {f32 : Addr}
    {od33 an33 : Option Addr} {sl33 : Array (Option Value)} {oc33 kV33 dc33 pm33 cd33 ct33 : Value} {f33 : Addr}
    {od34 an34 : Option Addr} {sl34 : Array (Option Value)} {oc34 kV34 dc34 pm34 cd34 ct34 : Value} {f34 : Addr}
    {od35 an35 : Option Addr} {sl35 : Array (Option Value)} {oc35 kV35 dc35 pm35 cd35 ct35 : Value} {f35 : Addr}
    {od36 an36 : Option Addr} {sl36 : Array (Option Value)} {oc36 kV36 dc36 pm36 cd36 ct36 : Value} {f36 : Addr}
    {od37 an37 : Option Addr} {sl37 : Array (Option Value)} {oc37 kV37 dc37 pm37 cd37 ct37 : Value} {f37 : Addr}
    {od38 an38 : Option Addr} {sl38 : Array (Option Value)} {oc38 kV38 dc38 pm38 cd38 ct38 : Value} {f38 : Addr}
    {od39 an39 : Option Addr} {sl39 : Array (Option Value)} {oc39 kV39 dc39 pm39 cd39 ct39 : Value} {f39 : Addr}
    {od40 an40 : Option Addr} {sl40 : Array (Option Value)} {oc40 kV40 dc40 pm40 cd40 ct40 : Value} {f40 : Addr}
    {od41 an41 : Option Addr} {sl41 : Array (Option Value)} {oc41 kV41 dc41 pm41 cd41 ct41 : Value} {f41 : Addr}
    {od42 an42 : Option Addr} {sl42 : Array (Option Value)} {oc42 kV42 dc42 pm42 cd42 ct42 : Value} {f42 : Addr}
    {od43 an43 : Option Addr} {sl43 : Array (Option Value)} {oc43 kV43 dc43 pm43 cd43 ct43 : Value} {f43 : Addr}
    {od44 an44 : Option Addr} {sl44 : Array (Option Value)} {oc44 kV44 dc44 pm44 cd44 ct44 : Value} {f44 : Addr}
    {od45 an45 : Option Addr} {sl45 : Array (Option Value)} {oc45 kV45 dc45 pm45 cd45 ct45 : Value} {f45 : Addr}
    {od46 an46 : Option Addr} {sl46 : Array (Option Value)} {oc46 kV46 dc46 pm46 cd46 ct46 : Value} {f46 : Addr}
    {od47 an47 : Option Addr} {sl47 : Array (Option Value)} {oc47 kV47 dc47 pm47 cd47 ct47 : Value} {f47 : Addr}
    {od48 an48 : Option Addr} {sl48 : Array (Option Value)} {oc48 kV48 dc48 pm48 cd48 ct48 : Value} {f48 : Addr}
    {od49 an49 : Option Addr} {sl49 : Array (Option Value)} {oc49 kV49 dc49 pm49 cd49 ct49 : Value} {f49 : Addr}
    {od50 an50 : Option Addr} {sl50 : Array (Option Value)} {oc50 kV50 dc50 pm50 cd50 ct50 : Value} {f50 : Addr}
    {od51 an51 : Option Addr} {sl51 : Array (Option Value)} {oc51 kV51 dc51 pm51 cd51 ct51 : Value} {f51 : Addr}
    {od52 an52 : Option Addr} {sl52 : Array (Option Value)} {oc52 kV52 dc52 pm52 cd52 ct52 : Value} {f52 : Addr}
    {od53 an53 : Option Addr} {sl53 : Array (Option Value)} {oc53 kV53 dc53 pm53 cd53 ct53 : Value} {f53 : Addr}
    {od54 an54 : Option Addr} {sl54 : Array (Option Value)} {oc54 kV54 dc54 pm54 cd54 ct54 : Value} {f54 : Addr}
    {od55 an55 : Option Addr} {sl55 : Array (Option Value)} {oc55 kV55 dc55 pm55 cd55 ct55 : Value} {f55 : Addr}
    {od56 an56 : Option Addr} {sl56 : Array (Option Value)} {oc56 kV56 dc56 pm56 cd56 ct56 : Value} {f56 : Addr}
    {od57 an57 : Option Addr} {sl57 : Array (Option Value)} {oc57 kV57 dc57 pm57 cd57 ct57 : Value} {f57 : Addr}
    {od58 an58 : Option Addr} {sl58 : Array (Option Value)} {oc58 kV58 dc58 pm58 cd58 ct58 : Value} {f58 : Addr}
    {od59 an59 : Option Addr} {sl59 : Array (Option Value)} {oc59 kV59 dc59 pm59 cd59 ct59 : Value} {f59 : Addr}
    {od60 an60 : Option Addr} {sl60 : Array (Option Value)} {oc60 kV60 dc60 pm60 cd60 ct60 : Value} {f60 : Addr}
    {od61 an61 : Option Addr} {sl61 : Array (Option Value)} {oc61 kV61 dc61 pm61 cd61 ct61 : Value} {f61 : Addr}
    {od62 an62 : Option Addr} {sl62 : Array (Option Value)} {oc62 kV62 dc62 pm62 cd62 ct62 : Value} {f62 : Addr}
    {od63 an63 : Option Addr} {sl63 : Array (Option Value)} {oc63 kV63 dc63 pm63 cd63 ct63 : Value} {f63 : Addr}
    {od64 an64 : Option Addr} {sl64 : Array (Option Value)} {oc64 kV64 dc64 pm64 cd64 ct64 : Value} {f64 : Addr}
    {od65 an65 : Option Addr} {sl65 : Array (Option Value)} {oc65 kV65 dc65 pm65 cd65 ct65 : Value} {f65 : Addr}
    {od66 an66 : Option Addr} {sl66 : Array (Option Value)} {oc66 kV66 dc66 pm66 cd66 ct66 : Value} {f66 : Addr}
    {od67 an67 : Option Addr} {sl67 : Array (Option Value)} {oc67 kV67 dc67 pm67 cd67 ct67 : Value} {f67 : Addr}
    {od68 an68 : Option Addr} {sl68 : Array (Option Value)} {oc68 kV68 dc68 pm68 cd68 ct68 : Value} {f68 : Addr}
    {od69 an69 : Option Addr} {sl69 : Array (Option Value)} {oc69 kV69 dc69 pm69 cd69 ct69 : Value} {f69 : Addr}
    {t_REPLICAS : Tok}
    {t_BEFORE_PERCENT : Tok}
    {t_AFTER_PERCENT : Tok}
    {t_NUMBER_BYTES : Tok}
    {t_CHECKSUM_LIMIT : Tok}
    (aC_Deeds : PySem.W.nsIn K mainGlobals "Deeds" = some (some (.ref C_Deeds)))
    (aC_PlanwholeError : PySem.W.nsIn K mainGlobals "PlanwholeError" = some (some (.ref C_PlanwholeError)))
    (aC_DamagedPacket : PySem.W.nsIn K mainGlobals "DamagedPacket" = some (some (.ref C_DamagedPacket)))
    (aC_Reader : PySem.W.nsIn K mainGlobals "Reader" = some (some (.ref C_Reader)))
    (aC_Base : PySem.W.nsIn K mainGlobals "Base" = some (some (.ref C_Base)))
    (a0 : PySem.W.nsIn K mainGlobals "_wall" = some (some (.ref f0)))
    (l0 : K.lookup f0 = some ⟨oc0, od0, .func (PySem.W.fnOf "_wall" "_wall" (defArgs s__wall) (defBody s__wall) (defScope s__wall) .none kV0 dc0 pm0 an0 cd0 ct0), sl0⟩)
    (c0 : PySem.W.codeIn K cd0 "_wall" = true)
    (k0 : PySem.W.keepIn K (.ref f0) = true)
    (a1 : PySem.W.nsIn K mainGlobals "inserted" = some (some (.ref f1)))
    (l1 : K.lookup f1 = some ⟨oc1, od1, .func (PySem.W.fnOf "inserted" "inserted" (defArgs s_inserted) (defBody s_inserted) (defScope s_inserted) .none kV1 dc1 pm1 an1 cd1 ct1), sl1⟩)
    (c1 : PySem.W.codeIn K cd1 "inserted" = true)
    (k1 : PySem.W.keepIn K (.ref f1) = true)
    (a2 : PySem.W.findIn K (.ref C_Deeds) "__init__" = some (some (.ref f2)))
    (i2 : PySem.W.isFn K (.ref f2) = true)
    (l2 : K.lookup f2 = some ⟨oc2, od2, .func (PySem.W.fnOf "__init__" "Deeds.__init__" (defArgs s_Deeds___init__) (defBody s_Deeds___init__) (defScope s_Deeds___init__) .none kV2 dc2 pm2 an2 cd2 ct2), sl2⟩)
    (c2 : PySem.W.codeIn K cd2 "Deeds.__init__" = true)
    (k2 : PySem.W.keepIn K (.ref f2) = true)
    (a3 : PySem.W.findIn K (.ref C_Deeds) "counts" = some (some (.ref f3)))
    (i3 : PySem.W.isFn K (.ref f3) = true)
    (l3 : K.lookup f3 = some ⟨oc3, od3, .func (PySem.W.fnOf "counts" "Deeds.counts" (defArgs s_Deeds_counts) (defBody s_Deeds_counts) (defScope s_Deeds_counts) .none kV3 dc3 pm3 an3 cd3 ct3), sl3⟩)
    (c3 : PySem.W.codeIn K cd3 "Deeds.counts" = true)
    (k3 : PySem.W.keepIn K (.ref f3) = true)
    (a4 : PySem.W.findIn K (.ref C_Deeds) "add" = some (some (.ref f4)))
    (i4 : PySem.W.isFn K (.ref f4) = true)
    (l4 : K.lookup f4 = some ⟨oc4, od4, .func (PySem.W.fnOf "add" "Deeds.add" (defArgs s_Deeds_add) (defBody s_Deeds_add) (defScope s_Deeds_add) .none kV4 dc4 pm4 an4 cd4 ct4), sl4⟩)
    (c4 : PySem.W.codeIn K cd4 "Deeds.add" = true)
    (k4 : PySem.W.keepIn K (.ref f4) = true)
    (a5 : PySem.W.findIn K (.ref C_Deeds) "copy" = some (some (.ref f5)))
    (i5 : PySem.W.isFn K (.ref f5) = true)
    (l5 : K.lookup f5 = some ⟨oc5, od5, .func (PySem.W.fnOf "copy" "Deeds.copy" (defArgs s_Deeds_copy) (defBody s_Deeds_copy) (defScope s_Deeds_copy) .none kV5 dc5 pm5 an5 cd5 ct5), sl5⟩)
    (c5 : PySem.W.codeIn K cd5 "Deeds.copy" = true)
    (k5 : PySem.W.keepIn K (.ref f5) = true)
    (a6 : PySem.W.findIn K (.ref C_Deeds) "forces" = some (some (.ref f6)))
    (i6 : PySem.W.isFn K (.ref f6) = true)
    (l6 : K.lookup f6 = some ⟨oc6, od6, .func (PySem.W.fnOf "forces" "Deeds.forces" (defArgs s_Deeds_forces) (defBody s_Deeds_forces) (defScope s_Deeds_forces) .none kV6 dc6 pm6 an6 cd6 ct6), sl6⟩)
    (c6 : PySem.W.codeIn K cd6 "Deeds.forces" = true)
    (k6 : PySem.W.keepIn K (.ref f6) = true)
    (a7 : PySem.W.findIn K (.ref C_Deeds) "in_force" = some (some (.ref f7)))
    (i7 : PySem.W.isFn K (.ref f7) = true)
    (l7 : K.lookup f7 = some ⟨oc7, od7, .func (PySem.W.fnOf "in_force" "Deeds.in_force" (defArgs s_Deeds_in_force) (defBody s_Deeds_in_force) (defScope s_Deeds_in_force) .none kV7 dc7 pm7 an7 cd7 ct7), sl7⟩)
    (c7 : PySem.W.codeIn K cd7 "Deeds.in_force" = true)
    (k7 : PySem.W.keepIn K (.ref f7) = true)
    (a8 : PySem.W.findIn K (.ref C_Deeds) "changes" = some (some (.ref f8)))
    (i8 : PySem.W.isFn K (.ref f8) = true)
    (l8 : K.lookup f8 = some ⟨oc8, od8, .func (PySem.W.fnOf "changes" "Deeds.changes" (defArgs s_Deeds_changes) (defBody s_Deeds_changes) (defScope s_Deeds_changes) .none kV8 dc8 pm8 an8 cd8 ct8), sl8⟩)
    (c8 : PySem.W.codeIn K cd8 "Deeds.changes" = true)
    (k8 : PySem.W.keepIn K (.ref f8) = true)
    (a9 : PySem.W.findIn K (.ref C_Deeds) "modules" = some (some (.ref f9)))
    (i9 : PySem.W.isFn K (.ref f9) = true)
    (l9 : K.lookup f9 = some ⟨oc9, od9, .func (PySem.W.fnOf "modules" "Deeds.modules" (defArgs s_Deeds_modules) (defBody s_Deeds_modules) (defScope s_Deeds_modules) .none kV9 dc9 pm9 an9 cd9 ct9), sl9⟩)
    (c9 : PySem.W.codeIn K cd9 "Deeds.modules" = true)
    (k9 : PySem.W.keepIn K (.ref f9) = true)
    (a10 : PySem.W.findIn K (.ref C_Deeds) "row" = some (some (.ref f10)))
    (i10 : PySem.W.isFn K (.ref f10) = true)
    (l10 : K.lookup f10 = some ⟨oc10, od10, .func (PySem.W.fnOf "row" "Deeds.row" (defArgs s_Deeds_row) (defBody s_Deeds_row) (defScope s_Deeds_row) .none kV10 dc10 pm10 an10 cd10 ct10), sl10⟩)
    (c10 : PySem.W.codeIn K cd10 "Deeds.row" = true)
    (k10 : PySem.W.keepIn K (.ref f10) = true)
    (a11 : PySem.W.findIn K (.ref C_Deeds) "text" = some (some (.ref f11)))
    (i11 : PySem.W.isFn K (.ref f11) = true)
    (l11 : K.lookup f11 = some ⟨oc11, od11, .func (PySem.W.fnOf "text" "Deeds.text" (defArgs s_Deeds_text) (defBody s_Deeds_text) (defScope s_Deeds_text) .none kV11 dc11 pm11 an11 cd11 ct11), sl11⟩)
    (c11 : PySem.W.codeIn K cd11 "Deeds.text" = true)
    (k11 : PySem.W.keepIn K (.ref f11) = true)
    (a12 : PySem.W.findIn K (.ref C_Deeds) "last_number" = some (some (.ref f12)))
    (i12 : PySem.W.isFn K (.ref f12) = true)
    (l12 : K.lookup f12 = some ⟨oc12, od12, .func (PySem.W.fnOf "last_number" "Deeds.last_number" (defArgs s_Deeds_last_number) (defBody s_Deeds_last_number) (defScope s_Deeds_last_number) .none kV12 dc12 pm12 an12 cd12 ct12), sl12⟩)
    (c12 : PySem.W.codeIn K cd12 "Deeds.last_number" = true)
    (k12 : PySem.W.keepIn K (.ref f12) = true)
    (a13 : PySem.W.findIn K (.ref C_Deeds) "fits" = some (some (.ref f13)))
    (i13 : PySem.W.isFn K (.ref f13) = true)
    (l13 : K.lookup f13 = some ⟨oc13, od13, .func (PySem.W.fnOf "fits" "Deeds.fits" (defArgs s_Deeds_fits) (defBody s_Deeds_fits) (defScope s_Deeds_fits) .none kV13 dc13 pm13 an13 cd13 ct13), sl13⟩)
    (c13 : PySem.W.codeIn K cd13 "Deeds.fits" = true)
    (k13 : PySem.W.keepIn K (.ref f13) = true)
    (a14 : PySem.W.findIn K (.ref C_Reader) "__init__" = some (some (.ref f14)))
    (i14 : PySem.W.isFn K (.ref f14) = true)
    (l14 : K.lookup f14 = some ⟨oc14, od14, .func (PySem.W.fnOf "__init__" "Reader.__init__" (defArgs s_Reader___init__) (defBody s_Reader___init__) (defScope s_Reader___init__) .none kV14 dc14 pm14 an14 cd14 ct14), sl14⟩)
    (c14 : PySem.W.codeIn K cd14 "Reader.__init__" = true)
    (k14 : PySem.W.keepIn K (.ref f14) = true)
    (a15 : PySem.W.findIn K (.ref C_Reader) "read_byte" = some (some (.ref f15)))
    (i15 : PySem.W.isFn K (.ref f15) = true)
    (l15 : K.lookup f15 = some ⟨oc15, od15, .func (PySem.W.fnOf "read_byte" "Reader.read_byte" (defArgs s_Reader_read_byte) (defBody s_Reader_read_byte) (defScope s_Reader_read_byte) .none kV15 dc15 pm15 an15 cd15 ct15), sl15⟩)
    (c15 : PySem.W.codeIn K cd15 "Reader.read_byte" = true)
    (k15 : PySem.W.keepIn K (.ref f15) = true)
    (a16 : PySem.W.findIn K (.ref C_Reader) "read_choice" = some (some (.ref f16)))
    (i16 : PySem.W.isFn K (.ref f16) = true)
    (l16 : K.lookup f16 = some ⟨oc16, od16, .func (PySem.W.fnOf "read_choice" "Reader.read_choice" (defArgs s_Reader_read_choice) (defBody s_Reader_read_choice) (defScope s_Reader_read_choice) .none kV16 dc16 pm16 an16 cd16 ct16), sl16⟩)
    (c16 : PySem.W.codeIn K cd16 "Reader.read_choice" = true)
    (k16 : PySem.W.keepIn K (.ref f16) = true)
    (a17 : PySem.W.findIn K (.ref C_Reader) "end" = some (some (.ref f17)))
    (i17 : PySem.W.isFn K (.ref f17) = true)
    (l17 : K.lookup f17 = some ⟨oc17, od17, .func (PySem.W.fnOf "end" "Reader.end" (defArgs s_Reader_end) (defBody s_Reader_end) (defScope s_Reader_end) .none kV17 dc17 pm17 an17 cd17 ct17), sl17⟩)
    (c17 : PySem.W.codeIn K cd17 "Reader.end" = true)
    (k17 : PySem.W.keepIn K (.ref f17) = true)
    (a18 : PySem.W.findIn K (.ref C_Reader) "read_number" = some (some (.ref f18)))
    (i18 : PySem.W.isFn K (.ref f18) = true)
    (l18 : K.lookup f18 = some ⟨oc18, od18, .func (PySem.W.fnOf "read_number" "Reader.read_number" (defArgs s_Reader_read_number) (defBody s_Reader_read_number) (defScope s_Reader_read_number) .none kV18 dc18 pm18 an18 cd18 ct18), sl18⟩)
    (c18 : PySem.W.codeIn K cd18 "Reader.read_number" = true)
    (k18 : PySem.W.keepIn K (.ref f18) = true)
    (a19 : PySem.W.findIn K (.ref C_Reader) "read_count" = some (some (.ref f19)))
    (i19 : PySem.W.isFn K (.ref f19) = true)
    (l19 : K.lookup f19 = some ⟨oc19, od19, .func (PySem.W.fnOf "read_count" "Reader.read_count" (defArgs s_Reader_read_count) (defBody s_Reader_read_count) (defScope s_Reader_read_count) .none kV19 dc19 pm19 an19 cd19 ct19), sl19⟩)
    (c19 : PySem.W.codeIn K cd19 "Reader.read_count" = true)
    (k19 : PySem.W.keepIn K (.ref f19) = true)
    (a20 : PySem.W.findIn K (.ref C_Reader) "read_character" = some (some (.ref f20)))
    (i20 : PySem.W.isFn K (.ref f20) = true)
    (l20 : K.lookup f20 = some ⟨oc20, od20, .func (PySem.W.fnOf "read_character" "Reader.read_character" (defArgs s_Reader_read_character) (defBody s_Reader_read_character) (defScope s_Reader_read_character) .none kV20 dc20 pm20 an20 cd20 ct20), sl20⟩)
    (c20 : PySem.W.codeIn K cd20 "Reader.read_character" = true)
    (k20 : PySem.W.keepIn K (.ref f20) = true)
    (a21 : PySem.W.findIn K (.ref C_Reader) "read_string" = some (some (.ref f21)))
    (i21 : PySem.W.isFn K (.ref f21) = true)
    (l21 : K.lookup f21 = some ⟨oc21, od21, .func (PySem.W.fnOf "read_string" "Reader.read_string" (defArgs s_Reader_read_string) (defBody s_Reader_read_string) (defScope s_Reader_read_string) .none kV21 dc21 pm21 an21 cd21 ct21), sl21⟩)
    (c21 : PySem.W.codeIn K cd21 "Reader.read_string" = true)
    (k21 : PySem.W.keepIn K (.ref f21) = true)
    (a22 : PySem.W.findIn K (.ref C_Reader) "read_mark" = some (some (.ref f22)))
    (i22 : PySem.W.isFn K (.ref f22) = true)
    (l22 : K.lookup f22 = some ⟨oc22, od22, .func (PySem.W.fnOf "read_mark" "Reader.read_mark" (defArgs s_Reader_read_mark) (defBody s_Reader_read_mark) (defScope s_Reader_read_mark) .none kV22 dc22 pm22 an22 cd22 ct22), sl22⟩)
    (c22 : PySem.W.codeIn K cd22 "Reader.read_mark" = true)
    (k22 : PySem.W.keepIn K (.ref f22) = true)
    (a23 : PySem.W.findIn K (.ref C_Reader) "read_deed" = some (some (.ref f23)))
    (i23 : PySem.W.isFn K (.ref f23) = true)
    (l23 : K.lookup f23 = some ⟨oc23, od23, .func (PySem.W.fnOf "read_deed" "Reader.read_deed" (defArgs s_Reader_read_deed) (defBody s_Reader_read_deed) (defScope s_Reader_read_deed) .none kV23 dc23 pm23 an23 cd23 ct23), sl23⟩)
    (c23 : PySem.W.codeIn K cd23 "Reader.read_deed" = true)
    (k23 : PySem.W.keepIn K (.ref f23) = true)
    (a24 : PySem.W.findIn K (.ref C_Reader) "read_deeds" = some (some (.ref f24)))
    (i24 : PySem.W.isFn K (.ref f24) = true)
    (l24 : K.lookup f24 = some ⟨oc24, od24, .func (PySem.W.fnOf "read_deeds" "Reader.read_deeds" (defArgs s_Reader_read_deeds) (defBody s_Reader_read_deeds) (defScope s_Reader_read_deeds) .none kV24 dc24 pm24 an24 cd24 ct24), sl24⟩)
    (c24 : PySem.W.codeIn K cd24 "Reader.read_deeds" = true)
    (k24 : PySem.W.keepIn K (.ref f24) = true)
    (a25 : PySem.W.findIn K (.ref C_Reader) "read_triple" = some (some (.ref f25)))
    (i25 : PySem.W.isFn K (.ref f25) = true)
    (l25 : K.lookup f25 = some ⟨oc25, od25, .func (PySem.W.fnOf "read_triple" "Reader.read_triple" (defArgs s_Reader_read_triple) (defBody s_Reader_read_triple) (defScope s_Reader_read_triple) .none kV25 dc25 pm25 an25 cd25 ct25), sl25⟩)
    (c25 : PySem.W.codeIn K cd25 "Reader.read_triple" = true)
    (k25 : PySem.W.keepIn K (.ref f25) = true)
    (a26 : PySem.W.findIn K (.ref C_Reader) "read_triples" = some (some (.ref f26)))
    (i26 : PySem.W.isFn K (.ref f26) = true)
    (l26 : K.lookup f26 = some ⟨oc26, od26, .func (PySem.W.fnOf "read_triples" "Reader.read_triples" (defArgs s_Reader_read_triples) (defBody s_Reader_read_triples) (defScope s_Reader_read_triples) .none kV26 dc26 pm26 an26 cd26 ct26), sl26⟩)
    (c26 : PySem.W.codeIn K cd26 "Reader.read_triples" = true)
    (k26 : PySem.W.keepIn K (.ref f26) = true)
    (a27 : PySem.W.findIn K (.ref C_Reader) "read_packet" = some (some (.ref f27)))
    (i27 : PySem.W.isFn K (.ref f27) = true)
    (l27 : K.lookup f27 = some ⟨oc27, od27, .func (PySem.W.fnOf "read_packet" "Reader.read_packet" (defArgs s_Reader_read_packet) (defBody s_Reader_read_packet) (defScope s_Reader_read_packet) .none kV27 dc27 pm27 an27 cd27 ct27), sl27⟩)
    (c27 : PySem.W.codeIn K cd27 "Reader.read_packet" = true)
    (k27 : PySem.W.keepIn K (.ref f27) = true)
    (a28 : PySem.W.nsIn K mainGlobals "write_number" = some (some (.ref f28)))
    (l28 : K.lookup f28 = some ⟨oc28, od28, .func (PySem.W.fnOf "write_number" "write_number" (defArgs s_write_number) (defBody s_write_number) (defScope s_write_number) .none kV28 dc28 pm28 an28 cd28 ct28), sl28⟩)
    (c28 : PySem.W.codeIn K cd28 "write_number" = true)
    (k28 : PySem.W.keepIn K (.ref f28) = true)
    (a29 : PySem.W.nsIn K mainGlobals "write_list" = some (some (.ref f29)))
    (l29 : K.lookup f29 = some ⟨oc29, od29, .func (PySem.W.fnOf "write_list" "write_list" (defArgs s_write_list) (defBody s_write_list) (defScope s_write_list) .none kV29 dc29 pm29 an29 cd29 ct29), sl29⟩)
    (c29 : PySem.W.codeIn K cd29 "write_list" = true)
    (k29 : PySem.W.keepIn K (.ref f29) = true)
    (a30 : PySem.W.nsIn K mainGlobals "write_string" = some (some (.ref f30)))
    (l30 : K.lookup f30 = some ⟨oc30, od30, .func (PySem.W.fnOf "write_string" "write_string" (defArgs s_write_string) (defBody s_write_string) (defScope s_write_string) .none kV30 dc30 pm30 an30 cd30 ct30), sl30⟩)
    (c30 : PySem.W.codeIn K cd30 "write_string" = true)
    (k30 : PySem.W.keepIn K (.ref f30) = true)
    (a31 : PySem.W.nsIn K mainGlobals "write_mark" = some (some (.ref f31)))
    (l31 : K.lookup f31 = some ⟨oc31, od31, .func (PySem.W.fnOf "write_mark" "write_mark" (defArgs s_write_mark) (defBody s_write_mark) (defScope s_write_mark) .none kV31 dc31 pm31 an31 cd31 ct31), sl31⟩)
    (c31 : PySem.W.codeIn K cd31 "write_mark" = true)
    (k31 : PySem.W.keepIn K (.ref f31) = true)
    (a32 : PySem.W.nsIn K mainGlobals "write_deed" = some (some (.ref f32)))
    (l32 : K.lookup f32 = some ⟨oc32, od32, .func (PySem.W.fnOf "write_deed" "write_deed" (defArgs s_write_deed) (defBody s_write_deed) (defScope s_write_deed) .none kV32 dc32 pm32 an32 cd32 ct32), sl32⟩)
    (c32 : PySem.W.codeIn K cd32 "write_deed" = true)
    (k32 : PySem.W.keepIn K (.ref f32) = true)
    (a33 : PySem.W.nsIn K mainGlobals "write_triples" = some (some (.ref f33)))
    (l33 : K.lookup f33 = some ⟨oc33, od33, .func (PySem.W.fnOf "write_triples" "write_triples" (defArgs s_write_triples) (defBody s_write_triples) (defScope s_write_triples) .none kV33 dc33 pm33 an33 cd33 ct33), sl33⟩)
    (c33 : PySem.W.codeIn K cd33 "write_triples" = true)
    (k33 : PySem.W.keepIn K (.ref f33) = true)
    (a34 : PySem.W.findIn K (.ref C_Base) "__init__" = some (some (.ref f34)))
    (i34 : PySem.W.isFn K (.ref f34) = true)
    (l34 : K.lookup f34 = some ⟨oc34, od34, .func (PySem.W.fnOf "__init__" "Base.__init__" (defArgs s_Base___init__) (defBody s_Base___init__) (defScope s_Base___init__) .none kV34 dc34 pm34 an34 cd34 ct34), sl34⟩)
    (c34 : PySem.W.codeIn K cd34 "Base.__init__" = true)
    (k34 : PySem.W.keepIn K (.ref f34) = true)
    (a35 : PySem.W.findIn K (.ref C_Base) "copy" = some (some (.ref f35)))
    (i35 : PySem.W.isFn K (.ref f35) = true)
    (l35 : K.lookup f35 = some ⟨oc35, od35, .func (PySem.W.fnOf "copy" "Base.copy" (defArgs s_Base_copy) (defBody s_Base_copy) (defScope s_Base_copy) .none kV35 dc35 pm35 an35 cd35 ct35), sl35⟩)
    (c35 : PySem.W.codeIn K cd35 "Base.copy" = true)
    (k35 : PySem.W.keepIn K (.ref f35) = true)
    (a36 : PySem.W.findIn K (.ref C_Base) "data" = some (some (.ref f36)))
    (i36 : PySem.W.isFn K (.ref f36) = true)
    (l36 : K.lookup f36 = some ⟨oc36, od36, .func (PySem.W.fnOf "data" "Base.data" (defArgs s_Base_data) (defBody s_Base_data) (defScope s_Base_data) .none kV36 dc36 pm36 an36 cd36 ct36), sl36⟩)
    (c36 : PySem.W.codeIn K cd36 "Base.data" = true)
    (k36 : PySem.W.keepIn K (.ref f36) = true)
    (a37 : PySem.W.findIn K (.ref C_Base) "grown" = some (some (.ref f37)))
    (i37 : PySem.W.isFn K (.ref f37) = true)
    (l37 : K.lookup f37 = some ⟨oc37, od37, .func (PySem.W.fnOf "grown" "Base.grown" (defArgs s_Base_grown) (defBody s_Base_grown) (defScope s_Base_grown) .none kV37 dc37 pm37 an37 cd37 ct37), sl37⟩)
    (c37 : PySem.W.codeIn K cd37 "Base.grown" = true)
    (k37 : PySem.W.keepIn K (.ref f37) = true)
    (a38 : PySem.W.nsIn K mainGlobals "checksum" = some (some (.ref f38)))
    (l38 : K.lookup f38 = some ⟨oc38, od38, .func (PySem.W.fnOf "checksum" "checksum" (defArgs s_checksum) (defBody s_checksum) (defScope s_checksum) .none kV38 dc38 pm38 an38 cd38 ct38), sl38⟩)
    (c38 : PySem.W.codeIn K cd38 "checksum" = true)
    (k38 : PySem.W.keepIn K (.ref f38) = true)
    (a39 : PySem.W.nsIn K mainGlobals "write_record" = some (some (.ref f39)))
    (l39 : K.lookup f39 = some ⟨oc39, od39, .func (PySem.W.fnOf "write_record" "write_record" (defArgs s_write_record) (defBody s_write_record) (defScope s_write_record) .none kV39 dc39 pm39 an39 cd39 ct39), sl39⟩)
    (c39 : PySem.W.codeIn K cd39 "write_record" = true)
    (k39 : PySem.W.keepIn K (.ref f39) = true)
    (a40 : PySem.W.nsIn K mainGlobals "_read_size" = some (some (.ref f40)))
    (l40 : K.lookup f40 = some ⟨oc40, od40, .func (PySem.W.fnOf "_read_size" "_read_size" (defArgs s__read_size) (defBody s__read_size) (defScope s__read_size) .none kV40 dc40 pm40 an40 cd40 ct40), sl40⟩)
    (c40 : PySem.W.codeIn K cd40 "_read_size" = true)
    (k40 : PySem.W.keepIn K (.ref f40) = true)
    (a41 : PySem.W.nsIn K mainGlobals "read_records" = some (some (.ref f41)))
    (l41 : K.lookup f41 = some ⟨oc41, od41, .func (PySem.W.fnOf "read_records" "read_records" (defArgs s_read_records) (defBody s_read_records) (defScope s_read_records) .none kV41 dc41 pm41 an41 cd41 ct41), sl41⟩)
    (c41 : PySem.W.codeIn K cd41 "read_records" = true)
    (k41 : PySem.W.keepIn K (.ref f41) = true)
    (a42 : PySem.W.nsIn K mainGlobals "_write_base" = some (some (.ref f42)))
    (l42 : K.lookup f42 = some ⟨oc42, od42, .func (PySem.W.fnOf "_write_base" "_write_base" (defArgs s__write_base) (defBody s__write_base) (defScope s__write_base) .none kV42 dc42 pm42 an42 cd42 ct42), sl42⟩)
    (c42 : PySem.W.codeIn K cd42 "_write_base" = true)
    (k42 : PySem.W.keepIn K (.ref f42) = true)
    (a43 : PySem.W.nsIn K mainGlobals "log_start" = some (some (.ref f43)))
    (l43 : K.lookup f43 = some ⟨oc43, od43, .func (PySem.W.fnOf "log_start" "log_start" (defArgs s_log_start) (defBody s_log_start) (defScope s_log_start) .none kV43 dc43 pm43 an43 cd43 ct43), sl43⟩)
    (c43 : PySem.W.codeIn K cd43 "log_start" = true)
    (k43 : PySem.W.keepIn K (.ref f43) = true)
    (a44 : PySem.W.nsIn K mainGlobals "write_note" = some (some (.ref f44)))
    (l44 : K.lookup f44 = some ⟨oc44, od44, .func (PySem.W.fnOf "write_note" "write_note" (defArgs s_write_note) (defBody s_write_note) (defScope s_write_note) .none kV44 dc44 pm44 an44 cd44 ct44), sl44⟩)
    (c44 : PySem.W.codeIn K cd44 "write_note" = true)
    (k44 : PySem.W.keepIn K (.ref f44) = true)
    (a45 : PySem.W.nsIn K mainGlobals "_read_turn" = some (some (.ref f45)))
    (l45 : K.lookup f45 = some ⟨oc45, od45, .func (PySem.W.fnOf "_read_turn" "_read_turn" (defArgs s__read_turn) (defBody s__read_turn) (defScope s__read_turn) .none kV45 dc45 pm45 an45 cd45 ct45), sl45⟩)
    (c45 : PySem.W.codeIn K cd45 "_read_turn" = true)
    (k45 : PySem.W.keepIn K (.ref f45) = true)
    (a46 : PySem.W.nsIn K mainGlobals "_read_base" = some (some (.ref f46)))
    (l46 : K.lookup f46 = some ⟨oc46, od46, .func (PySem.W.fnOf "_read_base" "_read_base" (defArgs s__read_base) (defBody s__read_base) (defScope s__read_base) .none kV46 dc46 pm46 an46 cd46 ct46), sl46⟩)
    (c46 : PySem.W.codeIn K cd46 "_read_base" = true)
    (k46 : PySem.W.keepIn K (.ref f46) = true)
    (a47 : PySem.W.nsIn K mainGlobals "_after_note" = some (some (.ref f47)))
    (l47 : K.lookup f47 = some ⟨oc47, od47, .func (PySem.W.fnOf "_after_note" "_after_note" (defArgs s__after_note) (defBody s__after_note) (defScope s__after_note) .none kV47 dc47 pm47 an47 cd47 ct47), sl47⟩)
    (c47 : PySem.W.codeIn K cd47 "_after_note" = true)
    (k47 : PySem.W.keepIn K (.ref f47) = true)
    (a48 : PySem.W.nsIn K mainGlobals "read_log" = some (some (.ref f48)))
    (l48 : K.lookup f48 = some ⟨oc48, od48, .func (PySem.W.fnOf "read_log" "read_log" (defArgs s_read_log) (defBody s_read_log) (defScope s_read_log) .none kV48 dc48 pm48 an48 cd48 ct48), sl48⟩)
    (c48 : PySem.W.codeIn K cd48 "read_log" = true)
    (k48 : PySem.W.keepIn K (.ref f48) = true)
    (a49 : PySem.W.nsIn K mainGlobals "counting_file" = some (some (.ref f49)))
    (l49 : K.lookup f49 = some ⟨oc49, od49, .func (PySem.W.fnOf "counting_file" "counting_file" (defArgs s_counting_file) (defBody s_counting_file) (defScope s_counting_file) .none kV49 dc49 pm49 an49 cd49 ct49), sl49⟩)
    (c49 : PySem.W.codeIn K cd49 "counting_file" = true)
    (k49 : PySem.W.keepIn K (.ref f49) = true)
    (a50 : PySem.W.nsIn K mainGlobals "commits_of" = some (some (.ref f50)))
    (l50 : K.lookup f50 = some ⟨oc50, od50, .func (PySem.W.fnOf "commits_of" "commits_of" (defArgs s_commits_of) (defBody s_commits_of) (defScope s_commits_of) .none kV50 dc50 pm50 an50 cd50 ct50), sl50⟩)
    (c50 : PySem.W.codeIn K cd50 "commits_of" = true)
    (k50 : PySem.W.keepIn K (.ref f50) = true)
    (a51 : PySem.W.nsIn K mainGlobals "_law_next" = some (some (.ref f51)))
    (l51 : K.lookup f51 = some ⟨oc51, od51, .func (PySem.W.fnOf "_law_next" "_law_next" (defArgs s__law_next) (defBody s__law_next) (defScope s__law_next) .none kV51 dc51 pm51 an51 cd51 ct51), sl51⟩)
    (c51 : PySem.W.codeIn K cd51 "_law_next" = true)
    (k51 : PySem.W.keepIn K (.ref f51) = true)
    (a52 : PySem.W.nsIn K mainGlobals "_law_same" = some (some (.ref f52)))
    (l52 : K.lookup f52 = some ⟨oc52, od52, .func (PySem.W.fnOf "_law_same" "_law_same" (defArgs s__law_same) (defBody s__law_same) (defScope s__law_same) .none kV52 dc52 pm52 an52 cd52 ct52), sl52⟩)
    (c52 : PySem.W.codeIn K cd52 "_law_same" = true)
    (k52 : PySem.W.keepIn K (.ref f52) = true)
    (a53 : PySem.W.nsIn K mainGlobals "_law_read_number" = some (some (.ref f53)))
    (l53 : K.lookup f53 = some ⟨oc53, od53, .func (PySem.W.fnOf "_law_read_number" "_law_read_number" (defArgs s__law_read_number) (defBody s__law_read_number) (defScope s__law_read_number) .none kV53 dc53 pm53 an53 cd53 ct53), sl53⟩)
    (c53 : PySem.W.codeIn K cd53 "_law_read_number" = true)
    (k53 : PySem.W.keepIn K (.ref f53) = true)
    (a54 : PySem.W.nsIn K mainGlobals "_law_sign" = some (some (.ref f54)))
    (l54 : K.lookup f54 = some ⟨oc54, od54, .func (PySem.W.fnOf "_law_sign" "_law_sign" (defArgs s__law_sign) (defBody s__law_sign) (defScope s__law_sign) .none kV54 dc54 pm54 an54 cd54 ct54), sl54⟩)
    (c54 : PySem.W.codeIn K cd54 "_law_sign" = true)
    (k54 : PySem.W.keepIn K (.ref f54) = true)
    (a55 : PySem.W.nsIn K mainGlobals "_law_read_text" = some (some (.ref f55)))
    (l55 : K.lookup f55 = some ⟨oc55, od55, .func (PySem.W.fnOf "_law_read_text" "_law_read_text" (defArgs s__law_read_text) (defBody s__law_read_text) (defScope s__law_read_text) .none kV55 dc55 pm55 an55 cd55 ct55), sl55⟩)
    (c55 : PySem.W.codeIn K cd55 "_law_read_text" = true)
    (k55 : PySem.W.keepIn K (.ref f55) = true)
    (a56 : PySem.W.nsIn K mainGlobals "_law_read_mark" = some (some (.ref f56)))
    (l56 : K.lookup f56 = some ⟨oc56, od56, .func (PySem.W.fnOf "_law_read_mark" "_law_read_mark" (defArgs s__law_read_mark) (defBody s__law_read_mark) (defScope s__law_read_mark) .none kV56 dc56 pm56 an56 cd56 ct56), sl56⟩)
    (c56 : PySem.W.codeIn K cd56 "_law_read_mark" = true)
    (k56 : PySem.W.keepIn K (.ref f56) = true)
    (a57 : PySem.W.nsIn K mainGlobals "_law_read_deed" = some (some (.ref f57)))
    (l57 : K.lookup f57 = some ⟨oc57, od57, .func (PySem.W.fnOf "_law_read_deed" "_law_read_deed" (defArgs s__law_read_deed) (defBody s__law_read_deed) (defScope s__law_read_deed) .none kV57 dc57 pm57 an57 cd57 ct57), sl57⟩)
    (c57 : PySem.W.codeIn K cd57 "_law_read_deed" = true)
    (k57 : PySem.W.keepIn K (.ref f57) = true)
    (a58 : PySem.W.nsIn K mainGlobals "_law_read_triples" = some (some (.ref f58)))
    (l58 : K.lookup f58 = some ⟨oc58, od58, .func (PySem.W.fnOf "_law_read_triples" "_law_read_triples" (defArgs s__law_read_triples) (defBody s__law_read_triples) (defScope s__law_read_triples) .none kV58 dc58 pm58 an58 cd58 ct58), sl58⟩)
    (c58 : PySem.W.codeIn K cd58 "_law_read_triples" = true)
    (k58 : PySem.W.keepIn K (.ref f58) = true)
    (a59 : PySem.W.nsIn K mainGlobals "_law_sum" = some (some (.ref f59)))
    (l59 : K.lookup f59 = some ⟨oc59, od59, .func (PySem.W.fnOf "_law_sum" "_law_sum" (defArgs s__law_sum) (defBody s__law_sum) (defScope s__law_sum) .none kV59 dc59 pm59 an59 cd59 ct59), sl59⟩)
    (c59 : PySem.W.codeIn K cd59 "_law_sum" = true)
    (k59 : PySem.W.keepIn K (.ref f59) = true)
    (a60 : PySem.W.nsIn K mainGlobals "_law_record" = some (some (.ref f60)))
    (l60 : K.lookup f60 = some ⟨oc60, od60, .func (PySem.W.fnOf "_law_record" "_law_record" (defArgs s__law_record) (defBody s__law_record) (defScope s__law_record) .none kV60 dc60 pm60 an60 cd60 ct60), sl60⟩)
    (c60 : PySem.W.codeIn K cd60 "_law_record" = true)
    (k60 : PySem.W.keepIn K (.ref f60) = true)
    (a61 : PySem.W.nsIn K mainGlobals "_law_records" = some (some (.ref f61)))
    (l61 : K.lookup f61 = some ⟨oc61, od61, .func (PySem.W.fnOf "_law_records" "_law_records" (defArgs s__law_records) (defBody s__law_records) (defScope s__law_records) .none kV61 dc61 pm61 an61 cd61 ct61), sl61⟩)
    (c61 : PySem.W.codeIn K cd61 "_law_records" = true)
    (k61 : PySem.W.keepIn K (.ref f61) = true)
    (a62 : PySem.W.nsIn K mainGlobals "_law_base" = some (some (.ref f62)))
    (l62 : K.lookup f62 = some ⟨oc62, od62, .func (PySem.W.fnOf "_law_base" "_law_base" (defArgs s__law_base) (defBody s__law_base) (defScope s__law_base) .none kV62 dc62 pm62 an62 cd62 ct62), sl62⟩)
    (c62 : PySem.W.codeIn K cd62 "_law_base" = true)
    (k62 : PySem.W.keepIn K (.ref f62) = true)
    (a63 : PySem.W.nsIn K mainGlobals "_law_tells" = some (some (.ref f63)))
    (l63 : K.lookup f63 = some ⟨oc63, od63, .func (PySem.W.fnOf "_law_tells" "_law_tells" (defArgs s__law_tells) (defBody s__law_tells) (defScope s__law_tells) .none kV63 dc63 pm63 an63 cd63 ct63), sl63⟩)
    (c63 : PySem.W.codeIn K cd63 "_law_tells" = true)
    (k63 : PySem.W.keepIn K (.ref f63) = true)
    (a64 : PySem.W.nsIn K mainGlobals "_law_deed" = some (some (.ref f64)))
    (l64 : K.lookup f64 = some ⟨oc64, od64, .func (PySem.W.fnOf "_law_deed" "_law_deed" (defArgs s__law_deed) (defBody s__law_deed) (defScope s__law_deed) .none kV64 dc64 pm64 an64 cd64 ct64), sl64⟩)
    (c64 : PySem.W.codeIn K cd64 "_law_deed" = true)
    (k64 : PySem.W.keepIn K (.ref f64) = true)
    (a65 : PySem.W.nsIn K mainGlobals "_law_group" = some (some (.ref f65)))
    (l65 : K.lookup f65 = some ⟨oc65, od65, .func (PySem.W.fnOf "_law_group" "_law_group" (defArgs s__law_group) (defBody s__law_group) (defScope s__law_group) .none kV65 dc65 pm65 an65 cd65 ct65), sl65⟩)
    (c65 : PySem.W.codeIn K cd65 "_law_group" = true)
    (k65 : PySem.W.keepIn K (.ref f65) = true)
    (a66 : PySem.W.nsIn K mainGlobals "_law_strange" = some (some (.ref f66)))
    (l66 : K.lookup f66 = some ⟨oc66, od66, .func (PySem.W.fnOf "_law_strange" "_law_strange" (defArgs s__law_strange) (defBody s__law_strange) (defScope s__law_strange) .none kV66 dc66 pm66 an66 cd66 ct66), sl66⟩)
    (c66 : PySem.W.codeIn K cd66 "_law_strange" = true)
    (k66 : PySem.W.keepIn K (.ref f66) = true)
    (a67 : PySem.W.nsIn K mainGlobals "_law_file" = some (some (.ref f67)))
    (l67 : K.lookup f67 = some ⟨oc67, od67, .func (PySem.W.fnOf "_law_file" "_law_file" (defArgs s__law_file) (defBody s__law_file) (defScope s__law_file) .none kV67 dc67 pm67 an67 cd67 ct67), sl67⟩)
    (c67 : PySem.W.codeIn K cd67 "_law_file" = true)
    (k67 : PySem.W.keepIn K (.ref f67) = true)
    (a68 : PySem.W.nsIn K mainGlobals "_law_is_told" = some (some (.ref f68)))
    (l68 : K.lookup f68 = some ⟨oc68, od68, .func (PySem.W.fnOf "_law_is_told" "_law_is_told" (defArgs s__law_is_told) (defBody s__law_is_told) (defScope s__law_is_told) .none kV68 dc68 pm68 an68 cd68 ct68), sl68⟩)
    (c68 : PySem.W.codeIn K cd68 "_law_is_told" = true)
    (k68 : PySem.W.keepIn K (.ref f68) = true)
    (a69 : PySem.W.nsIn K mainGlobals "law" = some (some (.ref f69)))
    (l69 : K.lookup f69 = some ⟨oc69, od69, .func (PySem.W.fnOf "law" "law" (defArgs s_law) (defBody s_law) (defScope s_law) .none kV69 dc69 pm69 an69 cd69 ct69), sl69⟩)
    (c69 : PySem.W.codeIn K cd69 "law" = true)
    (k69 : PySem.W.keepIn K (.ref f69) = true)
    (pg_Deeds : PySem.W.plainGet K C_Deeds Str.empty = true)
    (hd_Deeds : PySem.W.hasDictIn K C_Deeds = true)
    (po_Deeds : PySem.W.plainOver K C_Deeds = true)
    (sa_Deeds : PySem.W.findIn K (.ref C_Deeds) "__setattr__" = some (some (.builtin "object.__setattr__")))
    (mk_Deeds : PySem.W.makesIn K C_Deeds = true)
    (kc_Deeds : PySem.W.keepIn K (.ref C_Deeds) = true)
    (x_Deeds_rows : PySem.W.findIn K (.ref C_Deeds) "rows" = some none)
    (pg_Reader : PySem.W.plainGet K C_Reader Str.empty = true)
    (hd_Reader : PySem.W.hasDictIn K C_Reader = true)
    (po_Reader : PySem.W.plainOver K C_Reader = true)
    (sa_Reader : PySem.W.findIn K (.ref C_Reader) "__setattr__" = some (some (.builtin "object.__setattr__")))
    (mk_Reader : PySem.W.makesIn K C_Reader = true)
    (kc_Reader : PySem.W.keepIn K (.ref C_Reader) = true)
    (x_Reader_data : PySem.W.findIn K (.ref C_Reader) "data" = some none)
    (x_Reader_at : PySem.W.findIn K (.ref C_Reader) "at" = some none)
    (pg_Base : PySem.W.plainGet K C_Base Str.empty = true)
    (hd_Base : PySem.W.hasDictIn K C_Base = true)
    (po_Base : PySem.W.plainOver K C_Base = true)
    (sa_Base : PySem.W.findIn K (.ref C_Base) "__setattr__" = some (some (.builtin "object.__setattr__")))
    (mk_Base : PySem.W.makesIn K C_Base = true)
    (kc_Base : PySem.W.keepIn K (.ref C_Base) = true)
    (x_Base_commits : PySem.W.findIn K (.ref C_Base) "commits" = some none)
    (x_Base_deeds : PySem.W.findIn K (.ref C_Base) "deeds" = some none)
    (xx_PlanwholeError : PySem.W.excIn K C_PlanwholeError [.type "ValueError", .type "Exception", .type "BaseException", .type "object"] "ValueError.__new__" = true)
    (kk_PlanwholeError : PySem.W.keepIn K (.ref C_PlanwholeError) = true)
    (bb_PlanwholeError : PySem.W.subIn K (.ref C_PlanwholeError) (.type "BaseException") = some true)
    (tt_PlanwholeError : PySem.W.typeIn K (.ref C_PlanwholeError) = some (.type "type"))
    (ii_PlanwholeError : PySem.W.isClsIn K C_PlanwholeError = true)
    (sub_PlanwholeError_PlanwholeError : PySem.W.subIn K (.ref C_PlanwholeError) (.ref C_PlanwholeError) = some true)
    (xx_DamagedPacket : PySem.W.excIn K C_DamagedPacket [.type "ValueError", .type "Exception", .type "BaseException", .type "object"] "ValueError.__new__" = true)
    (kk_DamagedPacket : PySem.W.keepIn K (.ref C_DamagedPacket) = true)
    (bb_DamagedPacket : PySem.W.subIn K (.ref C_DamagedPacket) (.type "BaseException") = some true)
    (tt_DamagedPacket : PySem.W.typeIn K (.ref C_DamagedPacket) = some (.type "type"))
    (ii_DamagedPacket : PySem.W.isClsIn K C_DamagedPacket = true)
    (sub_DamagedPacket_DamagedPacket : PySem.W.subIn K (.ref C_DamagedPacket) (.ref C_DamagedPacket) = some true)
    (ac_REPLICAS : PySem.W.nsIn K mainGlobals "REPLICAS" = some (some (.int 8 t_REPLICAS)))
    (ac_BEFORE_PERCENT : PySem.W.nsIn K mainGlobals "BEFORE_PERCENT" = some (some (.str " !\"#$" t_BEFORE_PERCENT)))
    (ac_AFTER_PERCENT : PySem.W.nsIn K mainGlobals "AFTER_PERCENT" = some (some (.str "&'()*+,-./0123456789:;<=>?@ABCDEFGHIJKLMNOPQRSTUVWXYZ[\\]^_`abcdefghijklmnopqrstuvwxyz{|}~" t_AFTER_PERCENT)))
    (ac_NUMBER_BYTES : PySem.W.nsIn K mainGlobals "NUMBER_BYTES" = some (some (.int 60 t_NUMBER_BYTES)))
    (ac_CHECKSUM_LIMIT : PySem.W.nsIn K mainGlobals "CHECKSUM_LIMIT" = some (some (.int 4294967296 t_CHECKSUM_LIMIT)))
    (z_bool : PySem.W.nsIn K mainGlobals "bool" = some none)
    (z_int : PySem.W.nsIn K mainGlobals "int" = some none)
    (z_isinstance : PySem.W.nsIn K mainGlobals "isinstance" = some none)
    (z_len : PySem.W.nsIn K mainGlobals "len" = some none)
    (z_list : PySem.W.nsIn K mainGlobals "list" = some none)
    (z_ord : PySem.W.nsIn K mainGlobals "ord" = some none)
    (z_range : PySem.W.nsIn K mainGlobals "range" = some none)
    (z_str : PySem.W.nsIn K mainGlobals "str" = some none)
    (z_sum : PySem.W.nsIn K mainGlobals "sum" = some none)
    (z_tuple : PySem.W.nsIn K mainGlobals "tuple" = some none)
    (z_zip : PySem.W.nsIn K mainGlobals "zip" = some none) :
    ∃ A : Adr, Env K mg A ∧ A.f_law = fa ∧ ∀ (s : Shared) (v : Value), BindsTo s A.d_law ⟨[v], []⟩ [("script", v)] := by
  have e := hfa.symm.trans (PySem.W.mg_of X G a69)
  cases e
  have F0 := fun_mk (st := s__wall) l0 c0 k0
  have F1 := fun_mk (st := s_inserted) l1 c1 k1
  have F2 := fun_mk (st := s_Deeds___init__) l2 c2 k2
  have F3 := fun_mk (st := s_Deeds_counts) l3 c3 k3
  have F4 := fun_mk (st := s_Deeds_add) l4 c4 k4
  have F5 := fun_mk (st := s_Deeds_copy) l5 c5 k5
  have F6 := fun_mk (st := s_Deeds_forces) l6 c6 k6
  have F7 := fun_mk (st := s_Deeds_in_force) l7 c7 k7
  have F8 := fun_mk (st := s_Deeds_changes) l8 c8 k8
  have F9 := fun_mk (st := s_Deeds_modules) l9 c9 k9
  have F10 := fun_mk (st := s_Deeds_row) l10 c10 k10
  have F11 := fun_mk (st := s_Deeds_text) l11 c11 k11
  have F12 := fun_mk (st := s_Deeds_last_number) l12 c12 k12
  have F13 := fun_mk (st := s_Deeds_fits) l13 c13 k13
  have F14 := fun_mk (st := s_Reader___init__) l14 c14 k14
  have F15 := fun_mk (st := s_Reader_read_byte) l15 c15 k15
  have F16 := fun_mk (st := s_Reader_read_choice) l16 c16 k16
  have F17 := fun_mk (st := s_Reader_end) l17 c17 k17
  have F18 := fun_mk (st := s_Reader_read_number) l18 c18 k18
  have F19 := fun_mk (st := s_Reader_read_count) l19 c19 k19
  have F20 := fun_mk (st := s_Reader_read_character) l20 c20 k20
  have F21 := fun_mk (st := s_Reader_read_string) l21 c21 k21
  have F22 := fun_mk (st := s_Reader_read_mark) l22 c22 k22
  have F23 := fun_mk (st := s_Reader_read_deed) l23 c23 k23
  have F24 := fun_mk (st := s_Reader_read_deeds) l24 c24 k24
  have F25 := fun_mk (st := s_Reader_read_triple) l25 c25 k25
  have F26 := fun_mk (st := s_Reader_read_triples) l26 c26 k26
  have F27 := fun_mk (st := s_Reader_read_packet) l27 c27 k27
  have F28 := fun_mk (st := s_write_number) l28 c28 k28
  have F29 := fun_mk (st := s_write_list) l29 c29 k29
  have F30 := fun_mk (st := s_write_string) l30 c30 k30
  have F31 := fun_mk (st := s_write_mark) l31 c31 k31
  have F32 := fun_mk (st := s_write_deed) l32 c32 k32
  have F33 := fun_mk (st := s_write_triples) l33 c33 k33
  have F34 := fun_mk (st := s_Base___init__) l34 c34 k34
  have F35 := fun_mk (st := s_Base_copy) l35 c35 k35
  have F36 := fun_mk (st := s_Base_data) l36 c36 k36
  have F37 := fun_mk (st := s_Base_grown) l37 c37 k37
  have F38 := fun_mk (st := s_checksum) l38 c38 k38
  have F39 := fun_mk (st := s_write_record) l39 c39 k39
  have F40 := fun_mk (st := s__read_size) l40 c40 k40
  have F41 := fun_mk (st := s_read_records) l41 c41 k41
  have F42 := fun_mk (st := s__write_base) l42 c42 k42
  have F43 := fun_mk (st := s_log_start) l43 c43 k43
  have F44 := fun_mk (st := s_write_note) l44 c44 k44
  have F45 := fun_mk (st := s__read_turn) l45 c45 k45
  have F46 := fun_mk (st := s__read_base) l46 c46 k46
  have F47 := fun_mk (st := s__after_note) l47 c47 k47
  have F48 := fun_mk (st := s_read_log) l48 c48 k48
  have F49 := fun_mk (st := s_counting_file) l49 c49 k49
  have F50 := fun_mk (st := s_commits_of) l50 c50 k50
  have F51 := fun_mk (st := s__law_next) l51 c51 k51
  have F52 := fun_mk (st := s__law_same) l52 c52 k52
  have F53 := fun_mk (st := s__law_read_number) l53 c53 k53
  have F54 := fun_mk (st := s__law_sign) l54 c54 k54
  have F55 := fun_mk (st := s__law_read_text) l55 c55 k55
  have F56 := fun_mk (st := s__law_read_mark) l56 c56 k56
  have F57 := fun_mk (st := s__law_read_deed) l57 c57 k57
  have F58 := fun_mk (st := s__law_read_triples) l58 c58 k58
  have F59 := fun_mk (st := s__law_sum) l59 c59 k59
  have F60 := fun_mk (st := s__law_record) l60 c60 k60
  have F61 := fun_mk (st := s__law_records) l61 c61 k61
  have F62 := fun_mk (st := s__law_base) l62 c62 k62
  have F63 := fun_mk (st := s__law_tells) l63 c63 k63
  have F64 := fun_mk (st := s__law_deed) l64 c64 k64
  have F65 := fun_mk (st := s__law_group) l65 c65 k65
  have F66 := fun_mk (st := s__law_strange) l66 c66 k66
  have F67 := fun_mk (st := s__law_file) l67 c67 k67
  have F68 := fun_mk (st := s__law_is_told) l68 c68 k68
  have F69 := fun_mk (st := s_law) l69 c69 k69
  exact ⟨{
      f__wall := f0,
      d__wall := (PySem.W.fnOf "_wall" "_wall" (defArgs s__wall) (defBody s__wall) (defScope s__wall) .none kV0 dc0 pm0 an0 cd0 ct0),
      f_inserted := f1,
      d_inserted := (PySem.W.fnOf "inserted" "inserted" (defArgs s_inserted) (defBody s_inserted) (defScope s_inserted) .none kV1 dc1 pm1 an1 cd1 ct1),
      f_Deeds___init__ := f2,
      d_Deeds___init__ := (PySem.W.fnOf "__init__" "Deeds.__init__" (defArgs s_Deeds___init__) (defBody s_Deeds___init__) (defScope s_Deeds___init__) .none kV2 dc2 pm2 an2 cd2 ct2),
      f_Deeds_counts := f3,
      d_Deeds_counts := (PySem.W.fnOf "counts" "Deeds.counts" (defArgs s_Deeds_counts) (defBody s_Deeds_counts) (defScope s_Deeds_counts) .none kV3 dc3 pm3 an3 cd3 ct3),
      f_Deeds_add := f4,
      d_Deeds_add := (PySem.W.fnOf "add" "Deeds.add" (defArgs s_Deeds_add) (defBody s_Deeds_add) (defScope s_Deeds_add) .none kV4 dc4 pm4 an4 cd4 ct4),
      f_Deeds_copy := f5,
      d_Deeds_copy := (PySem.W.fnOf "copy" "Deeds.copy" (defArgs s_Deeds_copy) (defBody s_Deeds_copy) (defScope s_Deeds_copy) .none kV5 dc5 pm5 an5 cd5 ct5),
      f_Deeds_forces := f6,
      d_Deeds_forces := (PySem.W.fnOf "forces" "Deeds.forces" (defArgs s_Deeds_forces) (defBody s_Deeds_forces) (defScope s_Deeds_forces) .none kV6 dc6 pm6 an6 cd6 ct6),
      f_Deeds_in_force := f7,
      d_Deeds_in_force := (PySem.W.fnOf "in_force" "Deeds.in_force" (defArgs s_Deeds_in_force) (defBody s_Deeds_in_force) (defScope s_Deeds_in_force) .none kV7 dc7 pm7 an7 cd7 ct7),
      f_Deeds_changes := f8,
      d_Deeds_changes := (PySem.W.fnOf "changes" "Deeds.changes" (defArgs s_Deeds_changes) (defBody s_Deeds_changes) (defScope s_Deeds_changes) .none kV8 dc8 pm8 an8 cd8 ct8),
      f_Deeds_modules := f9,
      d_Deeds_modules := (PySem.W.fnOf "modules" "Deeds.modules" (defArgs s_Deeds_modules) (defBody s_Deeds_modules) (defScope s_Deeds_modules) .none kV9 dc9 pm9 an9 cd9 ct9),
      f_Deeds_row := f10,
      d_Deeds_row := (PySem.W.fnOf "row" "Deeds.row" (defArgs s_Deeds_row) (defBody s_Deeds_row) (defScope s_Deeds_row) .none kV10 dc10 pm10 an10 cd10 ct10),
      f_Deeds_text := f11,
      d_Deeds_text := (PySem.W.fnOf "text" "Deeds.text" (defArgs s_Deeds_text) (defBody s_Deeds_text) (defScope s_Deeds_text) .none kV11 dc11 pm11 an11 cd11 ct11),
      f_Deeds_last_number := f12,
      d_Deeds_last_number := (PySem.W.fnOf "last_number" "Deeds.last_number" (defArgs s_Deeds_last_number) (defBody s_Deeds_last_number) (defScope s_Deeds_last_number) .none kV12 dc12 pm12 an12 cd12 ct12),
      f_Deeds_fits := f13,
      d_Deeds_fits := (PySem.W.fnOf "fits" "Deeds.fits" (defArgs s_Deeds_fits) (defBody s_Deeds_fits) (defScope s_Deeds_fits) .none kV13 dc13 pm13 an13 cd13 ct13),
      f_Reader___init__ := f14,
      d_Reader___init__ := (PySem.W.fnOf "__init__" "Reader.__init__" (defArgs s_Reader___init__) (defBody s_Reader___init__) (defScope s_Reader___init__) .none kV14 dc14 pm14 an14 cd14 ct14),
      f_Reader_read_byte := f15,
      d_Reader_read_byte := (PySem.W.fnOf "read_byte" "Reader.read_byte" (defArgs s_Reader_read_byte) (defBody s_Reader_read_byte) (defScope s_Reader_read_byte) .none kV15 dc15 pm15 an15 cd15 ct15),
      f_Reader_read_choice := f16,
      d_Reader_read_choice := (PySem.W.fnOf "read_choice" "Reader.read_choice" (defArgs s_Reader_read_choice) (defBody s_Reader_read_choice) (defScope s_Reader_read_choice) .none kV16 dc16 pm16 an16 cd16 ct16),
      f_Reader_end := f17,
      d_Reader_end := (PySem.W.fnOf "end" "Reader.end" (defArgs s_Reader_end) (defBody s_Reader_end) (defScope s_Reader_end) .none kV17 dc17 pm17 an17 cd17 ct17),
      f_Reader_read_number := f18,
      d_Reader_read_number := (PySem.W.fnOf "read_number" "Reader.read_number" (defArgs s_Reader_read_number) (defBody s_Reader_read_number) (defScope s_Reader_read_number) .none kV18 dc18 pm18 an18 cd18 ct18),
      f_Reader_read_count := f19,
      d_Reader_read_count := (PySem.W.fnOf "read_count" "Reader.read_count" (defArgs s_Reader_read_count) (defBody s_Reader_read_count) (defScope s_Reader_read_count) .none kV19 dc19 pm19 an19 cd19 ct19),
      f_Reader_read_character := f20,
      d_Reader_read_character := (PySem.W.fnOf "read_character" "Reader.read_character" (defArgs s_Reader_read_character) (defBody s_Reader_read_character) (defScope s_Reader_read_character) .none kV20 dc20 pm20 an20 cd20 ct20),
      f_Reader_read_string := f21,
      d_Reader_read_string := (PySem.W.fnOf "read_string" "Reader.read_string" (defArgs s_Reader_read_string) (defBody s_Reader_read_string) (defScope s_Reader_read_string) .none kV21 dc21 pm21 an21 cd21 ct21),
      f_Reader_read_mark := f22,
      d_Reader_read_mark := (PySem.W.fnOf "read_mark" "Reader.read_mark" (defArgs s_Reader_read_mark) (defBody s_Reader_read_mark) (defScope s_Reader_read_mark) .none kV22 dc22 pm22 an22 cd22 ct22),
      f_Reader_read_deed := f23,
      d_Reader_read_deed := (PySem.W.fnOf "read_deed" "Reader.read_deed" (defArgs s_Reader_read_deed) (defBody s_Reader_read_deed) (defScope s_Reader_read_deed) .none kV23 dc23 pm23 an23 cd23 ct23),
      f_Reader_read_deeds := f24,
      d_Reader_read_deeds := (PySem.W.fnOf "read_deeds" "Reader.read_deeds" (defArgs s_Reader_read_deeds) (defBody s_Reader_read_deeds) (defScope s_Reader_read_deeds) .none kV24 dc24 pm24 an24 cd24 ct24),
      f_Reader_read_triple := f25,
      d_Reader_read_triple := (PySem.W.fnOf "read_triple" "Reader.read_triple" (defArgs s_Reader_read_triple) (defBody s_Reader_read_triple) (defScope s_Reader_read_triple) .none kV25 dc25 pm25 an25 cd25 ct25),
      f_Reader_read_triples := f26,
      d_Reader_read_triples := (PySem.W.fnOf "read_triples" "Reader.read_triples" (defArgs s_Reader_read_triples) (defBody s_Reader_read_triples) (defScope s_Reader_read_triples) .none kV26 dc26 pm26 an26 cd26 ct26),
      f_Reader_read_packet := f27,
      d_Reader_read_packet := (PySem.W.fnOf "read_packet" "Reader.read_packet" (defArgs s_Reader_read_packet) (defBody s_Reader_read_packet) (defScope s_Reader_read_packet) .none kV27 dc27 pm27 an27 cd27 ct27),
      f_write_number := f28,
      d_write_number := (PySem.W.fnOf "write_number" "write_number" (defArgs s_write_number) (defBody s_write_number) (defScope s_write_number) .none kV28 dc28 pm28 an28 cd28 ct28),
      f_write_list := f29,
      d_write_list := (PySem.W.fnOf "write_list" "write_list" (defArgs s_write_list) (defBody s_write_list) (defScope s_write_list) .none kV29 dc29 pm29 an29 cd29 ct29),
      f_write_string := f30,
      d_write_string := (PySem.W.fnOf "write_string" "write_string" (defArgs s_write_string) (defBody s_write_string) (defScope s_write_string) .none kV30 dc30 pm30 an30 cd30 ct30),
      f_write_mark := f31,
      d_write_mark := (PySem.W.fnOf "write_mark" "write_mark" (defArgs s_write_mark) (defBody s_write_mark) (defScope s_write_mark) .none kV31 dc31 pm31 an31 cd31 ct31),
      f_write_deed := f32,
      d_write_deed := (PySem.W.fnOf "write_deed" "write_deed" (defArgs s_write_deed) (defBody s_write_deed) (defScope s_write_deed) .none kV32 dc32 pm32 an32 cd32 ct32),
      f_write_triples := f33,
      d_write_triples := (PySem.W.fnOf "write_triples" "write_triples" (defArgs s_write_triples) (defBody s_write_triples) (defScope s_write_triples) .none kV33 dc33 pm33 an33 cd33 ct33),
      f_Base___init__ := f34,
      d_Base___init__ := (PySem.W.fnOf "__init__" "Base.__init__" (defArgs s_Base___init__) (defBody s_Base___init__) (defScope s_Base___init__) .none kV34 dc34 pm34 an34 cd34 ct34),
      f_Base_copy := f35,
      d_Base_copy := (PySem.W.fnOf "copy" "Base.copy" (defArgs s_Base_copy) (defBody s_Base_copy) (defScope s_Base_copy) .none kV35 dc35 pm35 an35 cd35 ct35),
      f_Base_data := f36,
      d_Base_data := (PySem.W.fnOf "data" "Base.data" (defArgs s_Base_data) (defBody s_Base_data) (defScope s_Base_data) .none kV36 dc36 pm36 an36 cd36 ct36),
      f_Base_grown := f37,
      d_Base_grown := (PySem.W.fnOf "grown" "Base.grown" (defArgs s_Base_grown) (defBody s_Base_grown) (defScope s_Base_grown) .none kV37 dc37 pm37 an37 cd37 ct37),
      f_checksum := f38,
      d_checksum := (PySem.W.fnOf "checksum" "checksum" (defArgs s_checksum) (defBody s_checksum) (defScope s_checksum) .none kV38 dc38 pm38 an38 cd38 ct38),
      f_write_record := f39,
      d_write_record := (PySem.W.fnOf "write_record" "write_record" (defArgs s_write_record) (defBody s_write_record) (defScope s_write_record) .none kV39 dc39 pm39 an39 cd39 ct39),
      f__read_size := f40,
      d__read_size := (PySem.W.fnOf "_read_size" "_read_size" (defArgs s__read_size) (defBody s__read_size) (defScope s__read_size) .none kV40 dc40 pm40 an40 cd40 ct40),
      f_read_records := f41,
      d_read_records := (PySem.W.fnOf "read_records" "read_records" (defArgs s_read_records) (defBody s_read_records) (defScope s_read_records) .none kV41 dc41 pm41 an41 cd41 ct41),
      f__write_base := f42,
      d__write_base := (PySem.W.fnOf "_write_base" "_write_base" (defArgs s__write_base) (defBody s__write_base) (defScope s__write_base) .none kV42 dc42 pm42 an42 cd42 ct42),
      f_log_start := f43,
      d_log_start := (PySem.W.fnOf "log_start" "log_start" (defArgs s_log_start) (defBody s_log_start) (defScope s_log_start) .none kV43 dc43 pm43 an43 cd43 ct43),
      f_write_note := f44,
      d_write_note := (PySem.W.fnOf "write_note" "write_note" (defArgs s_write_note) (defBody s_write_note) (defScope s_write_note) .none kV44 dc44 pm44 an44 cd44 ct44),
      f__read_turn := f45,
      d__read_turn := (PySem.W.fnOf "_read_turn" "_read_turn" (defArgs s__read_turn) (defBody s__read_turn) (defScope s__read_turn) .none kV45 dc45 pm45 an45 cd45 ct45),
      f__read_base := f46,
      d__read_base := (PySem.W.fnOf "_read_base" "_read_base" (defArgs s__read_base) (defBody s__read_base) (defScope s__read_base) .none kV46 dc46 pm46 an46 cd46 ct46),
      f__after_note := f47,
      d__after_note := (PySem.W.fnOf "_after_note" "_after_note" (defArgs s__after_note) (defBody s__after_note) (defScope s__after_note) .none kV47 dc47 pm47 an47 cd47 ct47),
      f_read_log := f48,
      d_read_log := (PySem.W.fnOf "read_log" "read_log" (defArgs s_read_log) (defBody s_read_log) (defScope s_read_log) .none kV48 dc48 pm48 an48 cd48 ct48),
      f_counting_file := f49,
      d_counting_file := (PySem.W.fnOf "counting_file" "counting_file" (defArgs s_counting_file) (defBody s_counting_file) (defScope s_counting_file) .none kV49 dc49 pm49 an49 cd49 ct49),
      f_commits_of := f50,
      d_commits_of := (PySem.W.fnOf "commits_of" "commits_of" (defArgs s_commits_of) (defBody s_commits_of) (defScope s_commits_of) .none kV50 dc50 pm50 an50 cd50 ct50),
      f__law_next := f51,
      d__law_next := (PySem.W.fnOf "_law_next" "_law_next" (defArgs s__law_next) (defBody s__law_next) (defScope s__law_next) .none kV51 dc51 pm51 an51 cd51 ct51),
      f__law_same := f52,
      d__law_same := (PySem.W.fnOf "_law_same" "_law_same" (defArgs s__law_same) (defBody s__law_same) (defScope s__law_same) .none kV52 dc52 pm52 an52 cd52 ct52),
      f__law_read_number := f53,
      d__law_read_number := (PySem.W.fnOf "_law_read_number" "_law_read_number" (defArgs s__law_read_number) (defBody s__law_read_number) (defScope s__law_read_number) .none kV53 dc53 pm53 an53 cd53 ct53),
      f__law_sign := f54,
      d__law_sign := (PySem.W.fnOf "_law_sign" "_law_sign" (defArgs s__law_sign) (defBody s__law_sign) (defScope s__law_sign) .none kV54 dc54 pm54 an54 cd54 ct54),
      f__law_read_text := f55,
      d__law_read_text := (PySem.W.fnOf "_law_read_text" "_law_read_text" (defArgs s__law_read_text) (defBody s__law_read_text) (defScope s__law_read_text) .none kV55 dc55 pm55 an55 cd55 ct55),
      f__law_read_mark := f56,
      d__law_read_mark := (PySem.W.fnOf "_law_read_mark" "_law_read_mark" (defArgs s__law_read_mark) (defBody s__law_read_mark) (defScope s__law_read_mark) .none kV56 dc56 pm56 an56 cd56 ct56),
      f__law_read_deed := f57,
      d__law_read_deed := (PySem.W.fnOf "_law_read_deed" "_law_read_deed" (defArgs s__law_read_deed) (defBody s__law_read_deed) (defScope s__law_read_deed) .none kV57 dc57 pm57 an57 cd57 ct57),
      f__law_read_triples := f58,
      d__law_read_triples := (PySem.W.fnOf "_law_read_triples" "_law_read_triples" (defArgs s__law_read_triples) (defBody s__law_read_triples) (defScope s__law_read_triples) .none kV58 dc58 pm58 an58 cd58 ct58),
      f__law_sum := f59,
      d__law_sum := (PySem.W.fnOf "_law_sum" "_law_sum" (defArgs s__law_sum) (defBody s__law_sum) (defScope s__law_sum) .none kV59 dc59 pm59 an59 cd59 ct59),
      f__law_record := f60,
      d__law_record := (PySem.W.fnOf "_law_record" "_law_record" (defArgs s__law_record) (defBody s__law_record) (defScope s__law_record) .none kV60 dc60 pm60 an60 cd60 ct60),
      f__law_records := f61,
      d__law_records := (PySem.W.fnOf "_law_records" "_law_records" (defArgs s__law_records) (defBody s__law_records) (defScope s__law_records) .none kV61 dc61 pm61 an61 cd61 ct61),
      f__law_base := f62,
      d__law_base := (PySem.W.fnOf "_law_base" "_law_base" (defArgs s__law_base) (defBody s__law_base) (defScope s__law_base) .none kV62 dc62 pm62 an62 cd62 ct62),
      f__law_tells := f63,
      d__law_tells := (PySem.W.fnOf "_law_tells" "_law_tells" (defArgs s__law_tells) (defBody s__law_tells) (defScope s__law_tells) .none kV63 dc63 pm63 an63 cd63 ct63),
      f__law_deed := f64,
      d__law_deed := (PySem.W.fnOf "_law_deed" "_law_deed" (defArgs s__law_deed) (defBody s__law_deed) (defScope s__law_deed) .none kV64 dc64 pm64 an64 cd64 ct64),
      f__law_group := f65,
      d__law_group := (PySem.W.fnOf "_law_group" "_law_group" (defArgs s__law_group) (defBody s__law_group) (defScope s__law_group) .none kV65 dc65 pm65 an65 cd65 ct65),
      f__law_strange := f66,
      d__law_strange := (PySem.W.fnOf "_law_strange" "_law_strange" (defArgs s__law_strange) (defBody s__law_strange) (defScope s__law_strange) .none kV66 dc66 pm66 an66 cd66 ct66),
      f__law_file := f67,
      d__law_file := (PySem.W.fnOf "_law_file" "_law_file" (defArgs s__law_file) (defBody s__law_file) (defScope s__law_file) .none kV67 dc67 pm67 an67 cd67 ct67),
      f__law_is_told := f68,
      d__law_is_told := (PySem.W.fnOf "_law_is_told" "_law_is_told" (defArgs s__law_is_told) (defBody s__law_is_told) (defScope s__law_is_told) .none kV68 dc68 pm68 an68 cd68 ct68),
      f_law := fa,
      d_law := (PySem.W.fnOf "law" "law" (defArgs s_law) (defBody s_law) (defScope s_law) .none kV69 dc69 pm69 an69 cd69 ct69),
      C_Deeds := C_Deeds,
      C_PlanwholeError := C_PlanwholeError,
      C_DamagedPacket := C_DamagedPacket,
      C_Reader := C_Reader,
      C_Base := C_Base,
      v_REPLICAS := (.int 8 t_REPLICAS),
      v_BEFORE_PERCENT := (.str " !\"#$" t_BEFORE_PERCENT),
      v_AFTER_PERCENT := (.str "&'()*+,-./0123456789:;<=>?@ABCDEFGHIJKLMNOPQRSTUVWXYZ[\\]^_`abcdefghijklmnopqrstuvwxyz{|}~" t_AFTER_PERCENT),
      v_NUMBER_BYTES := (.int 60 t_NUMBER_BYTES),
      v_CHECKSUM_LIMIT := (.int 4294967296 t_CHECKSUM_LIMIT) }, {
      F__wall := F0,
      b__wall := F0.binds (ps := ["k"]) fun _ _ _ _ _ _ us hl => match us, hl with | [_], _ => rfl,
      m__wall := PySem.W.mg_of X G a0,
      k__wall := k0,
      F_inserted := F1,
      b_inserted := F1.binds (ps := ["replica", "deed"]) fun _ _ _ _ _ _ us hl => match us, hl with | [_, _], _ => rfl,
      m_inserted := PySem.W.mg_of X G a1,
      k_inserted := k1,
      F_Deeds___init__ := F2,
      b_Deeds___init__ := F2.binds (ps := ["self"]) fun _ _ _ _ _ _ us hl => match us, hl with | [_], _ => rfl,
      h_Deeds___init__ := ⟨a2, i2, k2⟩,
      F_Deeds_counts := F3,
      b_Deeds_counts := F3.binds (ps := ["self"]) fun _ _ _ _ _ _ us hl => match us, hl with | [_], _ => rfl,
      h_Deeds_counts := ⟨a3, i3, k3⟩,
      F_Deeds_add := F4,
      b_Deeds_add := F4.binds (ps := ["self", "replica", "deed"]) fun _ _ _ _ _ _ us hl => match us, hl with | [_, _, _], _ => rfl,
      h_Deeds_add := ⟨a4, i4, k4⟩,
      F_Deeds_copy := F5,
      b_Deeds_copy := F5.binds (ps := ["self"]) fun _ _ _ _ _ _ us hl => match us, hl with | [_], _ => rfl,
      h_Deeds_copy := ⟨a5, i5, k5⟩,
      F_Deeds_forces := F6,
      b_Deeds_forces := F6.binds (ps := ["self", "replica"]) fun _ _ _ _ _ _ us hl => match us, hl with | [_, _], _ => rfl,
      h_Deeds_forces := ⟨a6, i6, k6⟩,
      F_Deeds_in_force := F7,
      b_Deeds_in_force := F7.binds (ps := ["self", "replica", "place"]) fun _ _ _ _ _ _ us hl => match us, hl with | [_, _, _], _ => rfl,
      h_Deeds_in_force := ⟨a7, i7, k7⟩,
      F_Deeds_changes := F8,
      b_Deeds_changes := F8.binds (ps := ["self", "module"]) fun _ _ _ _ _ _ us hl => match us, hl with | [_, _], _ => rfl,
      h_Deeds_changes := ⟨a8, i8, k8⟩,
      F_Deeds_modules := F9,
      b_Deeds_modules := F9.binds (ps := ["self"]) fun _ _ _ _ _ _ us hl => match us, hl with | [_], _ => rfl,
      h_Deeds_modules := ⟨a9, i9, k9⟩,
      F_Deeds_row := F10,
      b_Deeds_row := F10.binds (ps := ["self", "module"]) fun _ _ _ _ _ _ us hl => match us, hl with | [_, _], _ => rfl,
      h_Deeds_row := ⟨a10, i10, k10⟩,
      F_Deeds_text := F11,
      b_Deeds_text := F11.binds (ps := ["self", "module"]) fun _ _ _ _ _ _ us hl => match us, hl with | [_, _], _ => rfl,
      h_Deeds_text := ⟨a11, i11, k11⟩,
      F_Deeds_last_number := F12,
      b_Deeds_last_number := F12.binds (ps := ["self"]) fun _ _ _ _ _ _ us hl => match us, hl with | [_], _ => rfl,
      h_Deeds_last_number := ⟨a12, i12, k12⟩,
      F_Deeds_fits := F13,
      b_Deeds_fits := F13.binds (ps := ["self", "replica", "deed"]) fun _ _ _ _ _ _ us hl => match us, hl with | [_, _, _], _ => rfl,
      h_Deeds_fits := ⟨a13, i13, k13⟩,
      F_Reader___init__ := F14,
      b_Reader___init__ := F14.binds (ps := ["self", "data"]) fun _ _ _ _ _ _ us hl => match us, hl with | [_, _], _ => rfl,
      h_Reader___init__ := ⟨a14, i14, k14⟩,
      F_Reader_read_byte := F15,
      b_Reader_read_byte := F15.binds (ps := ["self"]) fun _ _ _ _ _ _ us hl => match us, hl with | [_], _ => rfl,
      h_Reader_read_byte := ⟨a15, i15, k15⟩,
      F_Reader_read_choice := F16,
      b_Reader_read_choice := F16.binds (ps := ["self", "count"]) fun _ _ _ _ _ _ us hl => match us, hl with | [_, _], _ => rfl,
      h_Reader_read_choice := ⟨a16, i16, k16⟩,
      F_Reader_end := F17,
      b_Reader_end := F17.binds (ps := ["self"]) fun _ _ _ _ _ _ us hl => match us, hl with | [_], _ => rfl,
      h_Reader_end := ⟨a17, i17, k17⟩,
      F_Reader_read_number := F18,
      b_Reader_read_number := F18.binds (ps := ["self"]) fun _ _ _ _ _ _ us hl => match us, hl with | [_], _ => rfl,
      h_Reader_read_number := ⟨a18, i18, k18⟩,
      F_Reader_read_count := F19,
      b_Reader_read_count := F19.binds (ps := ["self"]) fun _ _ _ _ _ _ us hl => match us, hl with | [_], _ => rfl,
      h_Reader_read_count := ⟨a19, i19, k19⟩,
      F_Reader_read_character := F20,
      b_Reader_read_character := F20.binds (ps := ["self"]) fun _ _ _ _ _ _ us hl => match us, hl with | [_], _ => rfl,
      h_Reader_read_character := ⟨a20, i20, k20⟩,
      F_Reader_read_string := F21,
      b_Reader_read_string := F21.binds (ps := ["self"]) fun _ _ _ _ _ _ us hl => match us, hl with | [_], _ => rfl,
      h_Reader_read_string := ⟨a21, i21, k21⟩,
      F_Reader_read_mark := F22,
      b_Reader_read_mark := F22.binds (ps := ["self"]) fun _ _ _ _ _ _ us hl => match us, hl with | [_], _ => rfl,
      h_Reader_read_mark := ⟨a22, i22, k22⟩,
      F_Reader_read_deed := F23,
      b_Reader_read_deed := F23.binds (ps := ["self"]) fun _ _ _ _ _ _ us hl => match us, hl with | [_], _ => rfl,
      h_Reader_read_deed := ⟨a23, i23, k23⟩,
      F_Reader_read_deeds := F24,
      b_Reader_read_deeds := F24.binds (ps := ["self"]) fun _ _ _ _ _ _ us hl => match us, hl with | [_], _ => rfl,
      h_Reader_read_deeds := ⟨a24, i24, k24⟩,
      F_Reader_read_triple := F25,
      b_Reader_read_triple := F25.binds (ps := ["self"]) fun _ _ _ _ _ _ us hl => match us, hl with | [_], _ => rfl,
      h_Reader_read_triple := ⟨a25, i25, k25⟩,
      F_Reader_read_triples := F26,
      b_Reader_read_triples := F26.binds (ps := ["self"]) fun _ _ _ _ _ _ us hl => match us, hl with | [_], _ => rfl,
      h_Reader_read_triples := ⟨a26, i26, k26⟩,
      F_Reader_read_packet := F27,
      b_Reader_read_packet := F27.binds (ps := ["self"]) fun _ _ _ _ _ _ us hl => match us, hl with | [_], _ => rfl,
      h_Reader_read_packet := ⟨a27, i27, k27⟩,
      F_write_number := F28,
      b_write_number := F28.binds (ps := ["number"]) fun _ _ _ _ _ _ us hl => match us, hl with | [_], _ => rfl,
      m_write_number := PySem.W.mg_of X G a28,
      k_write_number := k28,
      F_write_list := F29,
      b_write_list := F29.binds (ps := ["items"]) fun _ _ _ _ _ _ us hl => match us, hl with | [_], _ => rfl,
      m_write_list := PySem.W.mg_of X G a29,
      k_write_list := k29,
      F_write_string := F30,
      b_write_string := F30.binds (ps := ["text"]) fun _ _ _ _ _ _ us hl => match us, hl with | [_], _ => rfl,
      m_write_string := PySem.W.mg_of X G a30,
      k_write_string := k30,
      F_write_mark := F31,
      b_write_mark := F31.binds (ps := ["mark"]) fun _ _ _ _ _ _ us hl => match us, hl with | [_], _ => rfl,
      m_write_mark := PySem.W.mg_of X G a31,
      k_write_mark := k31,
      F_write_deed := F32,
      b_write_deed := F32.binds (ps := ["deed"]) fun _ _ _ _ _ _ us hl => match us, hl with | [_], _ => rfl,
      m_write_deed := PySem.W.mg_of X G a32,
      k_write_deed := k32,
      F_write_triples := F33,
      b_write_triples := F33.binds (ps := ["triples"]) fun _ _ _ _ _ _ us hl => match us, hl with | [_], _ => rfl,
      m_write_triples := PySem.W.mg_of X G a33,
      k_write_triples := k33,
      F_Base___init__ := F34,
      b_Base___init__ := F34.binds (ps := ["self"]) fun _ _ _ _ _ _ us hl => match us, hl with | [_], _ => rfl,
      h_Base___init__ := ⟨a34, i34, k34⟩,
      F_Base_copy := F35,
      b_Base_copy := F35.binds (ps := ["self"]) fun _ _ _ _ _ _ us hl => match us, hl with | [_], _ => rfl,
      h_Base_copy := ⟨a35, i35, k35⟩,
      F_Base_data := F36,
      b_Base_data := F36.binds (ps := ["self"]) fun _ _ _ _ _ _ us hl => match us, hl with | [_], _ => rfl,
      h_Base_data := ⟨a36, i36, k36⟩,
      F_Base_grown := F37,
      b_Base_grown := F37.binds (ps := ["self", "triples"]) fun _ _ _ _ _ _ us hl => match us, hl with | [_, _], _ => rfl,
      h_Base_grown := ⟨a37, i37, k37⟩,
      F_checksum := F38,
      b_checksum := F38.binds (ps := ["data"]) fun _ _ _ _ _ _ us hl => match us, hl with | [_], _ => rfl,
      m_checksum := PySem.W.mg_of X G a38,
      k_checksum := k38,
      F_write_record := F39,
      b_write_record := F39.binds (ps := ["data"]) fun _ _ _ _ _ _ us hl => match us, hl with | [_], _ => rfl,
      m_write_record := PySem.W.mg_of X G a39,
      k_write_record := k39,
      F__read_size := F40,
      b__read_size := F40.binds (ps := ["data", "start"]) fun _ _ _ _ _ _ us hl => match us, hl with | [_, _], _ => rfl,
      m__read_size := PySem.W.mg_of X G a40,
      k__read_size := k40,
      F_read_records := F41,
      b_read_records := F41.binds (ps := ["data"]) fun _ _ _ _ _ _ us hl => match us, hl with | [_], _ => rfl,
      m_read_records := PySem.W.mg_of X G a41,
      k_read_records := k41,
      F__write_base := F42,
      b__write_base := F42.binds (ps := ["base"]) fun _ _ _ _ _ _ us hl => match us, hl with | [_], _ => rfl,
      m__write_base := PySem.W.mg_of X G a42,
      k__write_base := k42,
      F_log_start := F43,
      b_log_start := F43.binds (ps := ["turn", "base"]) fun _ _ _ _ _ _ us hl => match us, hl with | [_, _], _ => rfl,
      m_log_start := PySem.W.mg_of X G a43,
      k_log_start := k43,
      F_write_note := F44,
      b_write_note := F44.binds (ps := ["triples"]) fun _ _ _ _ _ _ us hl => match us, hl with | [_], _ => rfl,
      m_write_note := PySem.W.mg_of X G a44,
      k_write_note := k44,
      F__read_turn := F45,
      b__read_turn := F45.binds (ps := ["record"]) fun _ _ _ _ _ _ us hl => match us, hl with | [_], _ => rfl,
      m__read_turn := PySem.W.mg_of X G a45,
      k__read_turn := k45,
      F__read_base := F46,
      b__read_base := F46.binds (ps := ["record"]) fun _ _ _ _ _ _ us hl => match us, hl with | [_], _ => rfl,
      m__read_base := PySem.W.mg_of X G a46,
      k__read_base := k46,
      F__after_note := F47,
      b__after_note := F47.binds (ps := ["base", "record"]) fun _ _ _ _ _ _ us hl => match us, hl with | [_, _], _ => rfl,
      m__after_note := PySem.W.mg_of X G a47,
      k__after_note := k47,
      F_read_log := F48,
      b_read_log := F48.binds (ps := ["data"]) fun _ _ _ _ _ _ us hl => match us, hl with | [_], _ => rfl,
      m_read_log := PySem.W.mg_of X G a48,
      k_read_log := k48,
      F_counting_file := F49,
      b_counting_file := F49.binds (ps := ["first", "second"]) fun _ _ _ _ _ _ us hl => match us, hl with | [_, _], _ => rfl,
      m_counting_file := PySem.W.mg_of X G a49,
      k_counting_file := k49,
      F_commits_of := F50,
      b_commits_of := F50.binds (ps := ["data"]) fun _ _ _ _ _ _ us hl => match us, hl with | [_], _ => rfl,
      m_commits_of := PySem.W.mg_of X G a50,
      k_commits_of := k50,
      F__law_next := F51,
      b__law_next := F51.binds (ps := ["state", "limit"]) fun _ _ _ _ _ _ us hl => match us, hl with | [_, _], _ => rfl,
      m__law_next := PySem.W.mg_of X G a51,
      k__law_next := k51,
      F__law_same := F52,
      b__law_same := F52.binds (ps := ["actual", "expected"]) fun _ _ _ _ _ _ us hl => match us, hl with | [_, _], _ => rfl,
      m__law_same := PySem.W.mg_of X G a52,
      k__law_same := k52,
      F__law_read_number := F53,
      b__law_read_number := F53.binds (ps := ["data", "at"]) fun _ _ _ _ _ _ us hl => match us, hl with | [_, _], _ => rfl,
      m__law_read_number := PySem.W.mg_of X G a53,
      k__law_read_number := k53,
      F__law_sign := F54,
      b__law_sign := F54.binds (ps := ["code"]) fun _ _ _ _ _ _ us hl => match us, hl with | [_], _ => rfl,
      m__law_sign := PySem.W.mg_of X G a54,
      k__law_sign := k54,
      F__law_read_text := F55,
      b__law_read_text := F55.binds (ps := ["data", "at"]) fun _ _ _ _ _ _ us hl => match us, hl with | [_, _], _ => rfl,
      m__law_read_text := PySem.W.mg_of X G a55,
      k__law_read_text := k55,
      F__law_read_mark := F56,
      b__law_read_mark := F56.binds (ps := ["data", "at"]) fun _ _ _ _ _ _ us hl => match us, hl with | [_, _], _ => rfl,
      m__law_read_mark := PySem.W.mg_of X G a56,
      k__law_read_mark := k56,
      F__law_read_deed := F57,
      b__law_read_deed := F57.binds (ps := ["data", "at"]) fun _ _ _ _ _ _ us hl => match us, hl with | [_, _], _ => rfl,
      m__law_read_deed := PySem.W.mg_of X G a57,
      k__law_read_deed := k57,
      F__law_read_triples := F58,
      b__law_read_triples := F58.binds (ps := ["data", "at"]) fun _ _ _ _ _ _ us hl => match us, hl with | [_, _], _ => rfl,
      m__law_read_triples := PySem.W.mg_of X G a58,
      k__law_read_triples := k58,
      F__law_sum := F59,
      b__law_sum := F59.binds (ps := ["data"]) fun _ _ _ _ _ _ us hl => match us, hl with | [_], _ => rfl,
      m__law_sum := PySem.W.mg_of X G a59,
      k__law_sum := k59,
      F__law_record := F60,
      b__law_record := F60.binds (ps := ["data"]) fun _ _ _ _ _ _ us hl => match us, hl with | [_], _ => rfl,
      m__law_record := PySem.W.mg_of X G a60,
      k__law_record := k60,
      F__law_records := F61,
      b__law_records := F61.binds (ps := ["data"]) fun _ _ _ _ _ _ us hl => match us, hl with | [_], _ => rfl,
      m__law_records := PySem.W.mg_of X G a61,
      k__law_records := k61,
      F__law_base := F62,
      b__law_base := F62.binds (ps := ["record"]) fun _ _ _ _ _ _ us hl => match us, hl with | [_], _ => rfl,
      m__law_base := PySem.W.mg_of X G a62,
      k__law_base := k62,
      F__law_tells := F63,
      b__law_tells := F63.binds (ps := ["data"]) fun _ _ _ _ _ _ us hl => match us, hl with | [_], _ => rfl,
      m__law_tells := PySem.W.mg_of X G a63,
      k__law_tells := k63,
      F__law_deed := F64,
      b__law_deed := F64.binds (ps := ["state", "count"]) fun _ _ _ _ _ _ us hl => match us, hl with | [_, _], _ => rfl,
      m__law_deed := PySem.W.mg_of X G a64,
      k__law_deed := k64,
      F__law_group := F65,
      b__law_group := F65.binds (ps := ["state", "counts"]) fun _ _ _ _ _ _ us hl => match us, hl with | [_, _], _ => rfl,
      m__law_group := PySem.W.mg_of X G a65,
      k__law_group := k65,
      F__law_strange := F66,
      b__law_strange := F66.binds (ps := ["state", "counts"]) fun _ _ _ _ _ _ us hl => match us, hl with | [_, _], _ => rfl,
      m__law_strange := PySem.W.mg_of X G a66,
      k__law_strange := k66,
      F__law_file := F67,
      b__law_file := F67.binds (ps := ["state"]) fun _ _ _ _ _ _ us hl => match us, hl with | [_], _ => rfl,
      m__law_file := PySem.W.mg_of X G a67,
      k__law_file := k67,
      F__law_is_told := F68,
      b__law_is_told := F68.binds (ps := ["data"]) fun _ _ _ _ _ _ us hl => match us, hl with | [_], _ => rfl,
      m__law_is_told := PySem.W.mg_of X G a68,
      k__law_is_told := k68,
      F_law := F69,
      b_law := F69.binds (ps := ["script"]) fun _ _ _ _ _ _ us hl => match us, hl with | [_], _ => rfl,
      m_law := PySem.W.mg_of X G a69,
      k_law := k69,
      m_Deeds := PySem.W.mg_of X G aC_Deeds,
      c_Deeds := ⟨pg_Deeds, hd_Deeds, po_Deeds, sa_Deeds⟩,
      M_Deeds := ⟨mk_Deeds, a2, i2, kc_Deeds⟩,
      x_Deeds_rows := x_Deeds_rows,
      m_Reader := PySem.W.mg_of X G aC_Reader,
      c_Reader := ⟨pg_Reader, hd_Reader, po_Reader, sa_Reader⟩,
      M_Reader := ⟨mk_Reader, a14, i14, kc_Reader⟩,
      x_Reader_data := x_Reader_data,
      x_Reader_at := x_Reader_at,
      m_Base := PySem.W.mg_of X G aC_Base,
      c_Base := ⟨pg_Base, hd_Base, po_Base, sa_Base⟩,
      M_Base := ⟨mk_Base, a34, i34, kc_Base⟩,
      x_Base_commits := x_Base_commits,
      x_Base_deeds := x_Base_deeds,
      m_PlanwholeError := PySem.W.mg_of X G aC_PlanwholeError,
      xx_PlanwholeError := xx_PlanwholeError,
      kk_PlanwholeError := kk_PlanwholeError,
      bb_PlanwholeError := bb_PlanwholeError,
      tt_PlanwholeError := tt_PlanwholeError,
      ii_PlanwholeError := ii_PlanwholeError,
      sub_PlanwholeError_PlanwholeError := sub_PlanwholeError_PlanwholeError,
      m_DamagedPacket := PySem.W.mg_of X G aC_DamagedPacket,
      xx_DamagedPacket := xx_DamagedPacket,
      kk_DamagedPacket := kk_DamagedPacket,
      bb_DamagedPacket := bb_DamagedPacket,
      tt_DamagedPacket := tt_DamagedPacket,
      ii_DamagedPacket := ii_DamagedPacket,
      sub_DamagedPacket_DamagedPacket := sub_DamagedPacket_DamagedPacket,
      m_REPLICAS := PySem.W.mg_of X G ac_REPLICAS,
      r_REPLICAS := ⟨_, rfl⟩,
      m_BEFORE_PERCENT := PySem.W.mg_of X G ac_BEFORE_PERCENT,
      r_BEFORE_PERCENT := ⟨_, rfl⟩,
      m_AFTER_PERCENT := PySem.W.mg_of X G ac_AFTER_PERCENT,
      r_AFTER_PERCENT := ⟨_, rfl⟩,
      m_NUMBER_BYTES := PySem.W.mg_of X G ac_NUMBER_BYTES,
      r_NUMBER_BYTES := ⟨_, rfl⟩,
      m_CHECKSUM_LIMIT := PySem.W.mg_of X G ac_CHECKSUM_LIMIT,
      r_CHECKSUM_LIMIT := ⟨_, rfl⟩,
      n_bool := PySem.W.mg_none_of X G z_bool,
      n_int := PySem.W.mg_none_of X G z_int,
      n_isinstance := PySem.W.mg_none_of X G z_isinstance,
      n_len := PySem.W.mg_none_of X G z_len,
      n_list := PySem.W.mg_none_of X G z_list,
      n_ord := PySem.W.mg_none_of X G z_ord,
      n_range := PySem.W.mg_none_of X G z_range,
      n_str := PySem.W.mg_none_of X G z_str,
      n_sum := PySem.W.mg_none_of X G z_sum,
      n_tuple := PySem.W.mg_none_of X G z_tuple,
      n_zip := PySem.W.mg_none_of X G z_zip }, rfl, fun s v => .of_eq rfl⟩
theorem walk {l : PySem.W.OpenLaw} {q : Program} {loose : List Str} {XP : (Str → Option Value) → Heap → Prop} {YP : World → Heap → Prop} {d : DefRec} {K : Params → PySem.W.Frag} (hn : l.most = some 63) (hdf : d.params.defaults = [])
    (hY : ∀ (w : World) (h : Heap), YP w h → (K w.params).In h)
    (F : ∀ (w : World) (mg : Str → Option Value) (fa : Addr) (h : Heap), (K w.params).In h → h.Ns mainGlobals mg → mg d.name = some (.ref fa) →
      ∃ A : Adr, Env (K w.params) mg A ∧ A.f_law = fa ∧ ∀ (s : Shared) (v : Value), BindsTo s A.d_law ⟨[v], []⟩ [("script", v)]) :
    PySem.W.WalkO q loose XP YP l.row.toRowW d [] (fun f vs => PySem.call f vs) :=
  L2.walk_of (n := 63) (k := 11) (x := "script") (CX := fun _ => CX0) (sp := fun w => sp_law (K w.params)) hn (by decide) hdf ⟨rfl, by decide, by decide⟩ hY
    (fun w mg fa h KX G hmg => by
      obtain ⟨A, e, rfl, hb⟩ := F w mg fa h KX G hmg
      exact ⟨A.d_law, hb, fun base _ _ => ok_law e⟩)
    (fun _ _ a ns hl _ hS => ⟨a, ns, rfl, hS, hl, fun _ => rfl⟩) fun _ _ _ _ _ z => z
end My
open PySem PySem.W PyProof.Rows in
set_option maxRecDepth 100000 in
set_option maxHeartbeats 0 in
theorem PySem.Challenge.cw_planwhole_k13_logs_at_any_cut_holds : PySem.Challenge.rw_planwhole_k13_logs_at_any_cut.Holds := by
  w_on; o_law; k_head; (case hw => w_witness2)
  k_fill
  refine My.walk (l := PySem.Challenge.rw_planwhole_k13_logs_at_any_cut) rfl rfl (fun w h Y => by first | exact PySem.W.kIn_of Y | exact Y.1) ?F
  case F =>
    intro w mg fa h KX G hmg
    refine' My.all_mk KX G hmg ?aC_Deeds ?aC_PlanwholeError ?aC_DamagedPacket ?aC_Reader ?aC_Base ?a0 ?l0 ?c0 ?k0 ?a1 ?l1 ?c1 ?k1 ?a2 ?i2 ?l2 ?c2 ?k2 ?a3 ?i3 ?l3 ?c3 ?k3 ?a4 ?i4 ?l4 ?c4 ?k4 ?a5 ?i5 ?l5 ?c5 ?k5 ?a6 ?i6 ?l6 ?c6 ?k6 ?a7 ?i7 ?l7 ?c7 ?k7 ?a8 ?i8 ?l8 ?c8 ?k8 ?a9 ?i9 ?l9 ?c9 ?k9 ?a10 ?i10 ?l10 ?c10 ?k10 ?a11 ?i11 ?l11 ?c11 ?k11 ?a12 ?i12 ?l12 ?c12 ?k12 ?a13 ?i13 ?l13 ?c13 ?k13 ?a14 ?i14 ?l14 ?c14 ?k14 ?a15 ?i15 ?l15 ?c15 ?k15 ?a16 ?i16 ?l16 ?c16 ?k16 ?a17 ?i17 ?l17 ?c17 ?k17 ?a18 ?i18 ?l18 ?c18 ?k18 ?a19 ?i19 ?l19 ?c19 ?k19 ?a20 ?i20 ?l20 ?c20 ?k20 ?a21 ?i21 ?l21 ?c21 ?k21 ?a22 ?i22 ?l22 ?c22 ?k22 ?a23 ?i23 ?l23 ?c23 ?k23 ?a24 ?i24 ?l24 ?c24 ?k24 ?a25 ?i25 ?l25 ?c25 ?k25 ?a26 ?i26 ?l26 ?c26 ?k26 ?a27 ?i27 ?l27 ?c27 ?k27 ?a28 ?l28 ?c28 ?k28 ?a29 ?l29 ?c29 ?k29 ?a30 ?l30 ?c30 ?k30 ?a31 ?l31 ?c31 ?k31 ?a32 ?l32 ?c32 ?k32 ?a33 ?l33 ?c33 ?k33 ?a34 ?i34 ?l34 ?c34 ?k34 ?a35 ?i35 ?l35 ?c35 ?k35 ?a36 ?i36 ?l36 ?c36 ?k36 ?a37 ?i37 ?l37 ?c37 ?k37 ?a38 ?l38 ?c38 ?k38 ?a39 ?l39 ?c39 ?k39 ?a40 ?l40 ?c40 ?k40 ?a41 ?l41 ?c41 ?k41 ?a42 ?l42 ?c42 ?k42 ?a43 ?l43 ?c43 ?k43 ?a44 ?l44 ?c44 ?k44 ?a45 ?l45 ?c45 ?k45 ?a46 ?l46 ?c46 ?k46 ?a47 ?l47 ?c47 ?k47 ?a48 ?l48 ?c48 ?k48 ?a49 ?l49 ?c49 ?k49 ?a50 ?l50 ?c50 ?k50 ?a51 ?l51 ?c51 ?k51 ?a52 ?l52 ?c52 ?k52 ?a53 ?l53 ?c53 ?k53 ?a54 ?l54 ?c54 ?k54 ?a55 ?l55 ?c55 ?k55 ?a56 ?l56 ?c56 ?k56 ?a57 ?l57 ?c57 ?k57 ?a58 ?l58 ?c58 ?k58 ?a59 ?l59 ?c59 ?k59 ?a60 ?l60 ?c60 ?k60 ?a61 ?l61 ?c61 ?k61 ?a62 ?l62 ?c62 ?k62 ?a63 ?l63 ?c63 ?k63 ?a64 ?l64 ?c64 ?k64 ?a65 ?l65 ?c65 ?k65 ?a66 ?l66 ?c66 ?k66 ?a67 ?l67 ?c67 ?k67 ?a68 ?l68 ?c68 ?k68 ?a69 ?l69 ?c69 ?k69 ?pg_Deeds ?hd_Deeds ?po_Deeds ?sa_Deeds ?mk_Deeds ?kc_Deeds ?x_Deeds_rows ?pg_Reader ?hd_Reader ?po_Reader ?sa_Reader ?mk_Reader ?kc_Reader ?x_Reader_data ?x_Reader_at ?pg_Base ?hd_Base ?po_Base ?sa_Base ?mk_Base ?kc_Base ?x_Base_commits ?x_Base_deeds ?xx_PlanwholeError ?kk_PlanwholeError ?bb_PlanwholeError ?tt_PlanwholeError ?ii_PlanwholeError ?sub_PlanwholeError_PlanwholeError ?xx_DamagedPacket ?kk_DamagedPacket ?bb_DamagedPacket ?tt_DamagedPacket ?ii_DamagedPacket ?sub_DamagedPacket_DamagedPacket ?ac_REPLICAS ?ac_BEFORE_PERCENT ?ac_AFTER_PERCENT ?ac_NUMBER_BYTES ?ac_CHECKSUM_LIMIT ?z_bool ?z_int ?z_isinstance ?z_len ?z_list ?z_ord ?z_range ?z_str ?z_sum ?z_tuple ?z_zip
    (case aC_Deeds => k_is)
    (case aC_PlanwholeError => k_is)
    (case aC_DamagedPacket => k_is)
    (case aC_Reader => k_is)
    (case aC_Base => k_is)
    (case a0 => k_is)
    (case l0 => k_is)
    (case c0 => k_is)
    (case k0 => k_is)
    (case a1 => k_is)
    (case l1 => k_is)
    (case c1 => k_is)
    (case k1 => k_is)
    (case a2 => k_is)
    (case i2 => k_is)
    (case l2 => k_is)
    (case c2 => k_is)
    (case k2 => k_is)
    (case a3 => k_is)
    (case i3 => k_is)
    (case l3 => k_is)
    (case c3 => k_is)
    (case k3 => k_is)
    (case a4 => k_is)
    (case i4 => k_is)
    (case l4 => k_is)
    (case c4 => k_is)
    (case k4 => k_is)
    (case a5 => k_is)
    (case i5 => k_is)
    (case l5 => k_is)
    (case c5 => k_is)
    (case k5 => k_is)
    (case a6 => k_is)
    (case i6 => k_is)
    (case l6 => k_is)
    (case c6 => k_is)
    (case k6 => k_is)
    (case a7 => k_is)
    (case i7 => k_is)
    (case l7 => k_is)
    (case c7 => k_is)
    (case k7 => k_is)
    (case a8 => k_is)
    (case i8 => k_is)
    (case l8 => k_is)
    (case c8 => k_is)
    (case k8 => k_is)
    (case a9 => k_is)
    (case i9 => k_is)
    (case l9 => k_is)
    (case c9 => k_is)
    (case k9 => k_is)
    (case a10 => k_is)
    (case i10 => k_is)
    (case l10 => k_is)
    (case c10 => k_is)
    (case k10 => k_is)
    (case a11 => k_is)
    (case i11 => k_is)
    (case l11 => k_is)
    (case c11 => k_is)
    (case k11 => k_is)
    (case a12 => k_is)
    (case i12 => k_is)
    (case l12 => k_is)
    (case c12 => k_is)
    (case k12 => k_is)
    (case a13 => k_is)
    (case i13 => k_is)
    (case l13 => k_is)
    (case c13 => k_is)
    (case k13 => k_is)
    (case a14 => k_is)
    (case i14 => k_is)
    (case l14 => k_is)
    (case c14 => k_is)
    (case k14 => k_is)
    (case a15 => k_is)
    (case i15 => k_is)
    (case l15 => k_is)
    (case c15 => k_is)
    (case k15 => k_is)
    (case a16 => k_is)
    (case i16 => k_is)
    (case l16 => k_is)
    (case c16 => k_is)
    (case k16 => k_is)
    (case a17 => k_is)
    (case i17 => k_is)
    (case l17 => k_is)
    (case c17 => k_is)
    (case k17 => k_is)
    (case a18 => k_is)
    (case i18 => k_is)
    (case l18 => k_is)
    (case c18 => k_is)
    (case k18 => k_is)
    (case a19 => k_is)
    (case i19 => k_is)
    (case l19 => k_is)
    (case c19 => k_is)
    (case k19 => k_is)
    (case a20 => k_is)
    (case i20 => k_is)
    (case l20 => k_is)
    (case c20 => k_is)
    (case k20 => k_is)
    (case a21 => k_is)
    (case i21 => k_is)
    (case l21 => k_is)
    (case c21 => k_is)
    (case k21 => k_is)
    (case a22 => k_is)
    (case i22 => k_is)
    (case l22 => k_is)
    (case c22 => k_is)
    (case k22 => k_is)
    (case a23 => k_is)
    (case i23 => k_is)
    (case l23 => k_is)
    (case c23 => k_is)
    (case k23 => k_is)
    (case a24 => k_is)
    (case i24 => k_is)
    (case l24 => k_is)
    (case c24 => k_is)
    (case k24 => k_is)
    (case a25 => k_is)
    (case i25 => k_is)
    (case l25 => k_is)
    (case c25 => k_is)
    (case k25 => k_is)
    (case a26 => k_is)
    (case i26 => k_is)
    (case l26 => k_is)
    (case c26 => k_is)
    (case k26 => k_is)
    (case a27 => k_is)
    (case i27 => k_is)
    (case l27 => k_is)
    (case c27 => k_is)
    (case k27 => k_is)
    (case a28 => k_is)
    (case l28 => k_is)
    (case c28 => k_is)
    (case k28 => k_is)
    (case a29 => k_is)
    (case l29 => k_is)
    (case c29 => k_is)
    (case k29 => k_is)
    (case a30 => k_is)
    (case l30 => k_is)
    (case c30 => k_is)
    (case k30 => k_is)
    (case a31 => k_is)
    (case l31 => k_is)
    (case c31 => k_is)
    (case k31 => k_is)
    (case a32 => k_is)
    (case l32 => k_is)
    (case c32 => k_is)
    (case k32 => k_is)
    (case a33 => k_is)
    (case l33 => k_is)
    (case c33 => k_is)
    (case k33 => k_is)
    (case a34 => k_is)
    (case i34 => k_is)
    (case l34 => k_is)
    (case c34 => k_is)
    (case k34 => k_is)
    (case a35 => k_is)
    (case i35 => k_is)
    (case l35 => k_is)
    (case c35 => k_is)
    (case k35 => k_is)
    (case a36 => k_is)
    (case i36 => k_is)
    (case l36 => k_is)
    (case c36 => k_is)
    (case k36 => k_is)
    (case a37 => k_is)
    (case i37 => k_is)
    (case l37 => k_is)
    (case c37 => k_is)
    (case k37 => k_is)
    (case a38 => k_is)
    (case l38 => k_is)
    (case c38 => k_is)
    (case k38 => k_is)
    (case a39 => k_is)
    (case l39 => k_is)
    (case c39 => k_is)
    (case k39 => k_is)
    (case a40 => k_is)
    (case l40 => k_is)
    (case c40 => k_is)
    (case k40 => k_is)
    (case a41 => k_is)
    (case l41 => k_is)
    (case c41 => k_is)
    (case k41 => k_is)
    (case a42 => k_is)
    (case l42 => k_is)
    (case c42 => k_is)
    (case k42 => k_is)
    (case a43 => k_is)
    (case l43 => k_is)
    (case c43 => k_is)
    (case k43 => k_is)
    (case a44 => k_is)
    (case l44 => k_is)
    (case c44 => k_is)
    (case k44 => k_is)
    (case a45 => k_is)
    (case l45 => k_is)
    (case c45 => k_is)
    (case k45 => k_is)
    (case a46 => k_is)
    (case l46 => k_is)
    (case c46 => k_is)
    (case k46 => k_is)
    (case a47 => k_is)
    (case l47 => k_is)
    (case c47 => k_is)
    (case k47 => k_is)
    (case a48 => k_is)
    (case l48 => k_is)
    (case c48 => k_is)
    (case k48 => k_is)
    (case a49 => k_is)
    (case l49 => k_is)
    (case c49 => k_is)
    (case k49 => k_is)
    (case a50 => k_is)
    (case l50 => k_is)
    (case c50 => k_is)
    (case k50 => k_is)
    (case a51 => k_is)
    (case l51 => k_is)
    (case c51 => k_is)
    (case k51 => k_is)
    (case a52 => k_is)
    (case l52 => k_is)
    (case c52 => k_is)
    (case k52 => k_is)
    (case a53 => k_is)
    (case l53 => k_is)
    (case c53 => k_is)
    (case k53 => k_is)
    (case a54 => k_is)
    (case l54 => k_is)
    (case c54 => k_is)
    (case k54 => k_is)
    (case a55 => k_is)
    (case l55 => k_is)
    (case c55 => k_is)
    (case k55 => k_is)
    (case a56 => k_is)
    (case l56 => k_is)
    (case c56 => k_is)
    (case k56 => k_is)
    (case a57 => k_is)
    (case l57 => k_is)
    (case c57 => k_is)
    (case k57 => k_is)
    (case a58 => k_is)
    (case l58 => k_is)
    (case c58 => k_is)
    (case k58 => k_is)
    (case a59 => k_is)
    (case l59 => k_is)
    (case c59 => k_is)
    (case k59 => k_is)
    (case a60 => k_is)
    (case l60 => k_is)
    (case c60 => k_is)
    (case k60 => k_is)
    (case a61 => k_is)
    (case l61 => k_is)
    (case c61 => k_is)
    (case k61 => k_is)
    (case a62 => k_is)
    (case l62 => k_is)
    (case c62 => k_is)
    (case k62 => k_is)
    (case a63 => k_is)
    (case l63 => k_is)
    (case c63 => k_is)
    (case k63 => k_is)
    (case a64 => k_is)
    (case l64 => k_is)
    (case c64 => k_is)
    (case k64 => k_is)
    (case a65 => k_is)
    (case l65 => k_is)
    (case c65 => k_is)
    (case k65 => k_is)
    (case a66 => k_is)
    (case l66 => k_is)
    (case c66 => k_is)
    (case k66 => k_is)
    (case a67 => k_is)
    (case l67 => k_is)
    (case c67 => k_is)
    (case k67 => k_is)
    (case a68 => k_is)
    (case l68 => k_is)
    (case c68 => k_is)
    (case k68 => k_is)
    (case a69 => k_is)
    (case l69 => k_is)
    (case c69 => k_is)
    (case k69 => k_is)
    (case pg_Deeds => k_is)
    (case hd_Deeds => k_is)
    (case po_Deeds => k_is)
    (case sa_Deeds => k_is)
    (case mk_Deeds => k_is)
    (case kc_Deeds => k_is)
    (case x_Deeds_rows => k_is)
    (case pg_Reader => k_is)
    (case hd_Reader => k_is)
    (case po_Reader => k_is)
    (case sa_Reader => k_is)
    (case mk_Reader => k_is)
    (case kc_Reader => k_is)
    (case x_Reader_data => k_is)
    (case x_Reader_at => k_is)
    (case pg_Base => k_is)
    (case hd_Base => k_is)
    (case po_Base => k_is)
    (case sa_Base => k_is)
    (case mk_Base => k_is)
    (case kc_Base => k_is)
    (case x_Base_commits => k_is)
    (case x_Base_deeds => k_is)
    (case xx_PlanwholeError => k_exc)
    (case kk_PlanwholeError => k_is)
    (case bb_PlanwholeError => k_is)
    (case tt_PlanwholeError => k_is)
    (case ii_PlanwholeError => k_is)
    (case sub_PlanwholeError_PlanwholeError => first | rfl | k_is)
    (case xx_DamagedPacket => k_exc)
    (case kk_DamagedPacket => k_is)
    (case bb_DamagedPacket => k_is)
    (case tt_DamagedPacket => k_is)
    (case ii_DamagedPacket => k_is)
    (case sub_DamagedPacket_DamagedPacket => first | rfl | k_is)
    (case ac_REPLICAS => k_is)
    (case ac_BEFORE_PERCENT => k_is)
    (case ac_AFTER_PERCENT => k_is)
    (case ac_NUMBER_BYTES => k_is)
    (case ac_CHECKSUM_LIMIT => k_is)
    (case z_bool => k_is)
    (case z_int => k_is)
    (case z_isinstance => k_is)
    (case z_len => k_is)
    (case z_list => k_is)
    (case z_ord => k_is)
    (case z_range => k_is)
    (case z_str => k_is)
    (case z_sum => k_is)
    (case z_tuple => k_is)
    (case z_zip => k_is)

end
