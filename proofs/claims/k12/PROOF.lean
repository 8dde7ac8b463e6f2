import PyProof.Rows.All
import Wide.All
import OpenK.AllK
import Wide.FinOn
import HandS.ForMost
import HandS.Wide
import HandS.Iter
import HandS.Evl
import HandS.IsInst
import HandS.NoneIn
import HandS.More
import HandS.Walk
import HandS.Codes
import HandS.Exc
import HandS.ExcOwn
import HandS.TryOnly
import HandS.WordsExc
import PySem.Challenge.RW_planwhole_k12_bytes_written_and_read
set_option Elab.async false
set_option linter.all false
set_option maxRecDepth 100000
section
set_option maxHeartbeats 4000000
/-! W: readings step by step (my own layer over HandS) -/
namespace W
open PySem PySem.Spec L2

/-! ### heaps -/
/-- all but S is as it was -/
def Kp (S : List Addr) (H H' : Hp) : Prop := ∀ b, b ∉ S → H b = none ∨ H' b = H b
/-- every tuple is as it was -/
def Kt (H H' : Hp) : Prop := ∀ b xs, H b = some (.tup xs) → H' b = some (.tup xs)
def Keep (S : List Addr) (H H' : Hp) : Prop := Kp S H H' ∧ Kt H H'
theorem Keep.get {S : List Addr} {H H' : Hp} {b : Addr} {o : HO} (a : Keep S H H') (h : H b = some o) (n : b ∉ S) : H' b = some o := by
  rcases a.1 b n with e | e
  · rw [h] at e; cases e
  · rw [e]; exact h
theorem Keep.of {S : List Addr} {H H' : Hp} (a : ∀ b o, b ∉ S → H b = some o → H' b = some o) (t : Kt H H') : Keep S H H' := ⟨fun b n => by
  cases e : H b with
  | none => exact .inl rfl
  | some o => rw [a b o n e]; exact .inr rfl, t⟩
theorem Keep.refl {S : List Addr} {H : Hp} : Keep S H H := ⟨fun _ _ => .inr rfl, fun _ _ h => h⟩
theorem Keep.trans {S : List Addr} {H H1 H2 : Hp} (a : Keep S H H1) (b : Keep S H1 H2) : Keep S H H2 := Keep.of (fun c o n h => b.get (a.get h n) n) fun c xs h => b.2 c xs (a.2 c xs h)
theorem Keep.mono {S S' : List Addr} {H H' : Hp} (a : Keep S H H') (h : ∀ b ∈ S, b ∈ S') : Keep S' H H' := ⟨fun c n => a.1 c (fun q => n (h c q)), a.2⟩
theorem Keep.mut {S : List Addr} {H H1 H2 : Hp} {p : Addr} (k : Keep S H H1) (np : H p = none) (k2 : Keep [p] H1 H2) : Keep S H H2 :=
  Keep.of (fun c o n h => k2.get (k.get h n) (by
    intro z
    simp at z
    rw [z, np] at h
    cases h)) fun c xs h => k2.2 c xs (k.2 c xs h)
theorem Keep.any {S : List Addr} {H H' : Hp} (a : Keep [] H H') : Keep S H H' := a.mono (by simp)
theorem Keep.same {H H' : Hp} (a : Keep [] H H') : Same H H' := fun b o h => a.get h (by simp)
theorem Same.keep {S : List Addr} {H H' : Hp} (a : Same H H') : Keep S H H' := Keep.of (fun b o _ h => a b o h) fun b xs h => a b _ h
theorem same_new {H : Hp} {p : Addr} {o : HO} (h : H p = none) : Same H (upd H p o) := fun b u e => by rw [upd_ne (ne_of_none e h)]; exact e
theorem Keep.new {S : List Addr} {H : Hp} {p : Addr} {o : HO} (h : H p = none) : Keep S H (upd H p o) := Same.keep (same_new h)
theorem Keep.put {S : List Addr} {H : Hp} {p : Addr} {o : HO} (h : p ∈ S) (nt : ∀ xs, H p ≠ some (.tup xs)) : Keep S H (upd H p o) := Keep.of (fun b u n e => by
  rw [upd_ne (fun q => n (by rw [q]; exact h))]; exact e) fun b xs e => by
  rw [upd_ne (fun q => nt xs (by rw [← q]; exact e))]; exact e
/-- behind H0 an object that H0 does not know changes -/
theorem same_mut {H H' : Hp} {p : Addr} {o : HO} (e : Same H H') (h : H p = none) : Same H (upd H' p o) := fun b u z => by rw [upd_ne (ne_of_none z h)]; exact e b u z
/-- the heap without S -/
def hid (S : List Addr) (H : Hp) : Hp := fun b => if b ∈ S then none else H b
theorem hid_same {S : List Addr} {H : Hp} : Same (hid S H) H := fun b o h => by
  unfold hid at h; split at h
  · cases h
  · exact h
theorem Keep.hid {S : List Addr} {H H' : Hp} (a : Keep S H H') : Same (hid S H) (hid S H') := fun b o h => by
  unfold W.hid at h ⊢; split at h
  · cases h
  · next n => rw [if_neg n]; exact a.get h n
theorem hid_out {S : List Addr} {H : Hp} {b : Addr} {o : HO} (h : H b = some o) (n : b ∉ S) : hid S H b = some o := by unfold hid; rw [if_neg n]; exact h
theorem hid_in {S : List Addr} {H : Hp} {b : Addr} (n : b ∈ S) : hid S H b = none := by unfold hid; rw [if_pos n]
theorem Same.hidden {S : List Addr} {G H : Hp} (s : Same G H) (h : ∀ b ∈ S, G b = none) : Same G (hid S H) := fun b o e => by
  unfold hid; rw [if_neg (fun q => by rw [h b q] at e; cases e)]; exact s b o e
/-- behind a step that keeps all but S, what stands outside of S -/
theorem Keep.behind {S : List Addr} {G H H' : Hp} (a : Keep S H H') (s : Same G H) (h : ∀ b ∈ S, G b = none) : Same G H' := fun b o e => a.get (s b o e) (fun q => by rw [h b q] at e; cases e)
theorem Same.t {K : PySem.W.Frag} {H H' : Hp} {a : Addr} {xs : List V} (e : Same H H') (h : SqT K H a xs) : SqT K H' a xs := by
  rcases h with (h | ⟨o, h⟩) | h
  · exact .inl (.inl (e _ _ h))
  · exact .inl (.inr ⟨o, e _ _ h⟩)
  · exact .inr h

theorem Keep.put0 {H : Hp} {p : Addr} {o : HO} (nt : ∀ xs, H p ≠ some (.tup xs)) : Keep [p] H (upd H p o) := Keep.put (by simp) nt
theorem put_lst {H : Hp} {p : Addr} {o : HO} {xs : List V} (h : H p = some (.lst xs)) : Keep [p] H (upd H p o) := Keep.put0 fun ys e => by rw [h] at e; cases e
theorem put_ins {H : Hp} {p : Addr} {o : HO} {C dx : Addr} {fs : List (Str × V)} (h : H p = some (.ins C dx fs)) : Keep [p] H (upd H p o) := Keep.put0 fun ys e => by rw [h] at e; cases e
theorem carry {H0 H : Hp} {a : Addr} {o : HO} (h : H0 a = some o) (k : H0 a = some o → H a = some o) : H a = some o := k h
theorem carryL {K : PySem.W.Frag} {H0 H : Hp} {a : Addr} {xs : List V} (h : SqL K H0 a xs) (k : Keep [] H0 H) : SqL K H a xs := Same.seq k.same h
theorem carryT {K : PySem.W.Frag} {H0 H : Hp} {a : Addr} {xs : List V} (h : SqT K H0 a xs) (k : Keep [] H0 H) : SqT K H a xs := Same.t k.same h
theorem Keep.free {S : List Addr} {H H' : Hp} {p : Addr} (k : Keep S H H') (h : H' p = none) (n : p ∉ S) : H p = none := by
  cases q : H p with
  | none => rfl
  | some o => rw [k.get q n] at h; cases h
/-! ### statements -/
section
variable {t u : TS} {te ta tb : TE} {g : TG} {c : TT} {nx : St → Hp → Prop} {rt : VK} {bk ct : St → Hp → Prop} {D : Ends} {σ σ0 : St} {H : Hp} {K : PySem.W.Frag}
theorem enter {N : List Str} {vs : List V} (e : start N vs = σ0) (h : t D σ0 H) : t D (start N vs) H := by rw [e]; exact h
theorem s_seq (h : t ⟨fun σ' H' => u ⟨nx, rt, bk, ct⟩ σ' H', rt, bk, ct⟩ σ H) : tSeq t u ⟨nx, rt, bk, ct⟩ σ H := h
theorem s_cut (Mid : St → Hp → Prop) (h : t ⟨Mid, rt, bk, ct⟩ σ H) (k : ∀ σ' H', Mid σ' H' → u ⟨nx, rt, bk, ct⟩ σ' H') : Evl.tCut t u ⟨nx, rt, bk, ct⟩ σ H := ⟨Mid, h, k⟩
theorem s_asg (h : te σ H fun x H1 => g x σ H1 nx) : tAsg te g ⟨nx, rt, bk, ct⟩ σ H := h
theorem s_ret (h : te σ H rt) : tRet te ⟨nx, rt, bk, ct⟩ σ H := h
theorem s_retN (h : rt .non H) : tRetN ⟨nx, rt, bk, ct⟩ σ H := h
theorem s_drop (h : te σ H fun _ H1 => nx σ H1) : tDrop te ⟨nx, rt, bk, ct⟩ σ H := h
theorem s_if (h : c σ H fun b H1 => if b = true then t D σ H1 else u D σ H1) : tIfS c t u D σ H := h
theorem s_next (h : nx σ H) : tNext ⟨nx, rt, bk, ct⟩ σ H := h
theorem s_brk (h : bk σ H) : tBreak ⟨nx, rt, bk, ct⟩ σ H := h
theorem s_cont (h : ct σ H) : tCont ⟨nx, rt, bk, ct⟩ σ H := h
theorem s_aug {i : Nat} {ti : TIp} (h : tVar i σ H fun x _ => te σ H fun y H1 => ti x y H1 fun z H2 => gName i z σ H2 nx) : tAug i te ti ⟨nx, rt, bk, ct⟩ σ H := h
def rSetF (K : PySem.W.Frag) (f : Str) (y x : V) (H : Hp) (Q : Hp → Prop) : Prop := ∃ a C dx fs, x = .ref a ∧ H a = some (.ins C dx fs) ∧ Cls K C ∧ NoAttr K C f ∧ fs.length < 1000 ∧ Q (upd H a (.ins C dx (putF f y fs)))
theorem s_fld {f : Str} (h : tb σ H fun y H1 => ta σ H1 fun x H2 => rSetF K f y x H2 fun H3 => nx σ H3) : sFld K ta tb f ⟨nx, rt, bk, ct⟩ σ H := h
theorem w_setF {f : Str} {y : V} {a C dx : Addr} {fs : List (Str × V)} {Q : Hp → Prop} (h : H a = some (.ins C dx fs)) (c : Cls K C) (n : NoAttr K C f) (l : fs.length < 1000) (q : ∀ H1, Keep [a] H H1 → H1 a = some (.ins C dx (putF f y fs)) → Q H1) : rSetF K f y (.ref a) H Q := ⟨a, C, dx, fs, rfl, h, c, n, l, q _ (put_ins h) upd_same⟩
def rGetF (K : PySem.W.Frag) (f : Str) (x : V) (H : Hp) (Q : VK) : Prop := ∃ a C dx fs v, x = .ref a ∧ H a = some (.ins C dx fs) ∧ Cls K C ∧ NoAttr K C f ∧ fs.lookup f = some v ∧ Q v H
theorem g_sub {to ti : TE} {ts : TSet} {v : V} {P : St → Hp → Prop} (h : to σ H fun o H1 => ti σ H1 fun i H2 => ts o i v H2 fun H3 => P σ H3) : gSub to ti ts v σ H P := h
theorem e_fld {f : Str} {Q : VK} (h : ta σ H fun x H1 => rGetF K f x H1 Q) : tFld K ta f σ H Q := h
theorem w_getF {f : Str} {v : V} {a C dx : Addr} {fs : List (Str × V)} {Q : VK} (h : H a = some (.ins C dx fs)) (c : Cls K C) (n : NoAttr K C f) (l : fs.lookup f = some v) (q : Q v H) : rGetF K f (.ref a) H Q := ⟨a, C, dx, fs, v, rfl, h, c, n, l, q⟩
theorem s_fldaug {f : Str} {rd : V → V → Hp → VK → Prop} (h : ta σ H fun x H1 => ∃ a C dx fs v, x = .ref a ∧ H1 a = some (.ins C dx fs) ∧ Cls K C ∧ NoAttr K C f ∧ fs.lookup f = some v ∧
  tb σ H1 fun y H2 => rd v y H2 fun z H3 => ∃ dx' fs', H3 a = some (.ins C dx' fs') ∧ fs'.length < 1000 ∧ nx σ (upd H3 a (.ins C dx' (putF f z fs')))) : sFldAug K ta tb rd f ⟨nx, rt, bk, ct⟩ σ H := h
theorem s_augS {to ti : TE} {tget : V → V → Hp → VK → Prop} {tip : TIp} {tset : TSet} (h : to σ H fun o H1 => ti σ H1 fun i H2 => tget o i H2 fun x H3 => te σ H3 fun y H4 => tip x y H4 fun z H5 => tset o i z H5 fun H6 => nx σ H6) : tAugS to ti te tget tip tset ⟨nx, rt, bk, ct⟩ σ H := h

/-! ### targets -/
theorem g_0 {v x : V} {a : Option V} {r : St} {Q : St → Hp → Prop} (q : Q (some v :: r) H) : gName 0 v (a :: r) H Q := q
end

section
variable {σ r : St} {H : Hp} {Q : VK} {v x : V} {P : St → Hp → Prop} {a0 a1 a2 a3 a4 a5 a6 a7 a8 a9 a10 a11 a12 a13 a14 a15 a16 a17 : Option V}
theorem v0 (q : Q v H) : tVar 0 (some v :: r) H Q := ⟨v, rfl, q⟩
theorem v1 (q : Q v H) : tVar 1 (a0 :: some v :: r) H Q := ⟨v, rfl, q⟩
theorem v2 (q : Q v H) : tVar 2 (a0 :: a1 :: some v :: r) H Q := ⟨v, rfl, q⟩
theorem v3 (q : Q v H) : tVar 3 (a0 :: a1 :: a2 :: some v :: r) H Q := ⟨v, rfl, q⟩
theorem v4 (q : Q v H) : tVar 4 (a0 :: a1 :: a2 :: a3 :: some v :: r) H Q := ⟨v, rfl, q⟩
theorem v5 (q : Q v H) : tVar 5 (a0 :: a1 :: a2 :: a3 :: a4 :: some v :: r) H Q := ⟨v, rfl, q⟩
theorem v6 (q : Q v H) : tVar 6 (a0 :: a1 :: a2 :: a3 :: a4 :: a5 :: some v :: r) H Q := ⟨v, rfl, q⟩
theorem v7 (q : Q v H) : tVar 7 (a0 :: a1 :: a2 :: a3 :: a4 :: a5 :: a6 :: some v :: r) H Q := ⟨v, rfl, q⟩
theorem v8 (q : Q v H) : tVar 8 (a0 :: a1 :: a2 :: a3 :: a4 :: a5 :: a6 :: a7 :: some v :: r) H Q := ⟨v, rfl, q⟩
theorem v9 (q : Q v H) : tVar 9 (a0 :: a1 :: a2 :: a3 :: a4 :: a5 :: a6 :: a7 :: a8 :: some v :: r) H Q := ⟨v, rfl, q⟩
theorem v10 (q : Q v H) : tVar 10 (a0 :: a1 :: a2 :: a3 :: a4 :: a5 :: a6 :: a7 :: a8 :: a9 :: some v :: r) H Q := ⟨v, rfl, q⟩
theorem v11 (q : Q v H) : tVar 11 (a0 :: a1 :: a2 :: a3 :: a4 :: a5 :: a6 :: a7 :: a8 :: a9 :: a10 :: some v :: r) H Q := ⟨v, rfl, q⟩
theorem v12 (q : Q v H) : tVar 12 (a0 :: a1 :: a2 :: a3 :: a4 :: a5 :: a6 :: a7 :: a8 :: a9 :: a10 :: a11 :: some v :: r) H Q := ⟨v, rfl, q⟩
theorem v13 (q : Q v H) : tVar 13 (a0 :: a1 :: a2 :: a3 :: a4 :: a5 :: a6 :: a7 :: a8 :: a9 :: a10 :: a11 :: a12 :: some v :: r) H Q := ⟨v, rfl, q⟩
theorem v14 (q : Q v H) : tVar 14 (a0 :: a1 :: a2 :: a3 :: a4 :: a5 :: a6 :: a7 :: a8 :: a9 :: a10 :: a11 :: a12 :: a13 :: some v :: r) H Q := ⟨v, rfl, q⟩
theorem v15 (q : Q v H) : tVar 15 (a0 :: a1 :: a2 :: a3 :: a4 :: a5 :: a6 :: a7 :: a8 :: a9 :: a10 :: a11 :: a12 :: a13 :: a14 :: some v :: r) H Q := ⟨v, rfl, q⟩
theorem v16 (q : Q v H) : tVar 16 (a0 :: a1 :: a2 :: a3 :: a4 :: a5 :: a6 :: a7 :: a8 :: a9 :: a10 :: a11 :: a12 :: a13 :: a14 :: a15 :: some v :: r) H Q := ⟨v, rfl, q⟩
theorem v17 (q : Q v H) : tVar 17 (a0 :: a1 :: a2 :: a3 :: a4 :: a5 :: a6 :: a7 :: a8 :: a9 :: a10 :: a11 :: a12 :: a13 :: a14 :: a15 :: a16 :: some v :: r) H Q := ⟨v, rfl, q⟩
theorem g0 (q : P (some v :: r) H) : gName 0 v (a0 :: r) H P := q
theorem g1 (q : P (a0 :: some v :: r) H) : gName 1 v (a0 :: a1 :: r) H P := q
theorem g2 (q : P (a0 :: a1 :: some v :: r) H) : gName 2 v (a0 :: a1 :: a2 :: r) H P := q
theorem g3 (q : P (a0 :: a1 :: a2 :: some v :: r) H) : gName 3 v (a0 :: a1 :: a2 :: a3 :: r) H P := q
theorem g4 (q : P (a0 :: a1 :: a2 :: a3 :: some v :: r) H) : gName 4 v (a0 :: a1 :: a2 :: a3 :: a4 :: r) H P := q
theorem g5 (q : P (a0 :: a1 :: a2 :: a3 :: a4 :: some v :: r) H) : gName 5 v (a0 :: a1 :: a2 :: a3 :: a4 :: a5 :: r) H P := q
theorem g6 (q : P (a0 :: a1 :: a2 :: a3 :: a4 :: a5 :: some v :: r) H) : gName 6 v (a0 :: a1 :: a2 :: a3 :: a4 :: a5 :: a6 :: r) H P := q
theorem g7 (q : P (a0 :: a1 :: a2 :: a3 :: a4 :: a5 :: a6 :: some v :: r) H) : gName 7 v (a0 :: a1 :: a2 :: a3 :: a4 :: a5 :: a6 :: a7 :: r) H P := q
theorem g8 (q : P (a0 :: a1 :: a2 :: a3 :: a4 :: a5 :: a6 :: a7 :: some v :: r) H) : gName 8 v (a0 :: a1 :: a2 :: a3 :: a4 :: a5 :: a6 :: a7 :: a8 :: r) H P := q
theorem g9 (q : P (a0 :: a1 :: a2 :: a3 :: a4 :: a5 :: a6 :: a7 :: a8 :: some v :: r) H) : gName 9 v (a0 :: a1 :: a2 :: a3 :: a4 :: a5 :: a6 :: a7 :: a8 :: a9 :: r) H P := q
theorem g10 (q : P (a0 :: a1 :: a2 :: a3 :: a4 :: a5 :: a6 :: a7 :: a8 :: a9 :: some v :: r) H) : gName 10 v (a0 :: a1 :: a2 :: a3 :: a4 :: a5 :: a6 :: a7 :: a8 :: a9 :: a10 :: r) H P := q
theorem g11 (q : P (a0 :: a1 :: a2 :: a3 :: a4 :: a5 :: a6 :: a7 :: a8 :: a9 :: a10 :: some v :: r) H) : gName 11 v (a0 :: a1 :: a2 :: a3 :: a4 :: a5 :: a6 :: a7 :: a8 :: a9 :: a10 :: a11 :: r) H P := q
theorem g12 (q : P (a0 :: a1 :: a2 :: a3 :: a4 :: a5 :: a6 :: a7 :: a8 :: a9 :: a10 :: a11 :: some v :: r) H) : gName 12 v (a0 :: a1 :: a2 :: a3 :: a4 :: a5 :: a6 :: a7 :: a8 :: a9 :: a10 :: a11 :: a12 :: r) H P := q
theorem g13 (q : P (a0 :: a1 :: a2 :: a3 :: a4 :: a5 :: a6 :: a7 :: a8 :: a9 :: a10 :: a11 :: a12 :: some v :: r) H) : gName 13 v (a0 :: a1 :: a2 :: a3 :: a4 :: a5 :: a6 :: a7 :: a8 :: a9 :: a10 :: a11 :: a12 :: a13 :: r) H P := q
theorem g14 (q : P (a0 :: a1 :: a2 :: a3 :: a4 :: a5 :: a6 :: a7 :: a8 :: a9 :: a10 :: a11 :: a12 :: a13 :: some v :: r) H) : gName 14 v (a0 :: a1 :: a2 :: a3 :: a4 :: a5 :: a6 :: a7 :: a8 :: a9 :: a10 :: a11 :: a12 :: a13 :: a14 :: r) H P := q
theorem g15 (q : P (a0 :: a1 :: a2 :: a3 :: a4 :: a5 :: a6 :: a7 :: a8 :: a9 :: a10 :: a11 :: a12 :: a13 :: a14 :: some v :: r) H) : gName 15 v (a0 :: a1 :: a2 :: a3 :: a4 :: a5 :: a6 :: a7 :: a8 :: a9 :: a10 :: a11 :: a12 :: a13 :: a14 :: a15 :: r) H P := q
end

/-! ### expressions -/
section
variable {σ : St} {H : Hp} {Q : VK} {P : Bool → Hp → Prop} {G : St → Hp → Prop} {ta tb tc te : TE} {tA tB' : TT} {tr : TA} {R : List V → Hp → Prop} {K : PySem.W.Frag} {x y z v : V} {i j : Int} {r r2 : R2}
theorem e_c (q : Q v H) : tC v σ H Q := q
theorem e_op (h : ta σ H fun x H1 => tb σ H1 fun y H2 => r x y H2 Q) : tOp r ta tb σ H Q := h
theorem e_un {r : V → Hp → VK → Prop} (h : ta σ H fun x H1 => r x H1 Q) : tUn r ta σ H Q := h
theorem e_if (h : tA σ H fun c H1 => if c = true then ta σ H1 Q else tb σ H1 Q) : tIf tA ta tb σ H Q := h
theorem e_CB {r : List V → Hp → VK → Prop} (h : tr σ H fun vs H1 => r vs H1 Q) : tCB r tr σ H Q := h
theorem e_call {sp : Sp} {dvs : List V} {E : XK} (h : tr σ H fun vs H1 => sp (vs ++ dvs) H1 Q E) : tCall sp dvs E tr σ H Q := h
def rNewL (xs : List V) (H : Hp) (Q : VK) : Prop := xs.length ≤ sizeLine ∧ ∀ p, H p = none → Q (.ref p) (upd H p (.lst xs))
def rNewT (xs : List V) (H : Hp) (Q : VK) : Prop := xs.length ≤ sizeLine ∧ ∀ p, H p = none → Q (.ref p) (upd H p (.tup xs))
theorem w_newL {xs : List V} (h : xs.length ≤ sizeLine) (q : ∀ p H1, H p = none → Keep [] H H1 → H1 p = some (.lst xs) → Q (.ref p) H1) : rNewL xs H Q := ⟨h, fun p hp => q p _ hp (Keep.new hp) upd_same⟩
theorem w_newT {xs : List V} (h : xs.length ≤ sizeLine) (q : ∀ p H1, H p = none → Keep [] H H1 → H1 p = some (.tup xs) → Q (.ref p) H1) : rNewT xs H Q := ⟨h, fun p hp => q p _ hp (Keep.new hp) upd_same⟩
theorem e_lst (h : tr σ H fun xs H1 => rNewL xs H1 Q) : tLst tr σ H Q := h
theorem e_tup (h : tr σ H fun xs H1 => rNewT xs H1 Q) : tTup tr σ H Q := h
theorem a_nil (h : R [] H) : tNil σ H R := h
theorem a_cons (h : ta σ H fun x H1 => tr σ H1 fun xs H2 => R (x :: xs) H2) : tCons ta tr σ H R := h
theorem e_sl {r : V → Option Int → Option Int → Hp → VK → Prop} {tl th : TO} (h : te σ H fun x H1 => tl σ H1 fun l H2 => th σ H2 fun u H3 => r x l u H3 Q) : tSl r te tl th σ H Q := h
theorem o_none {R : Option Int → Hp → Prop} (h : R none H) : tNoPart σ H R := h
def rPart (x : V) (H : Hp) (R : Option Int → Hp → Prop) : Prop := ∃ i, x = .int i ∧ R (some i) H
theorem o_some {R : Option Int → Hp → Prop} (h : te σ H fun x H1 => rPart x H1 R) : tPart te σ H R := h
theorem w_part {R : Option Int → Hp → Prop} (h : R (some i) H) : rPart (.int i) H R := ⟨i, rfl, h⟩
def rRecv (K : PySem.W.Frag) (T : String) (x : V) (H : Hp) (R : Prop) : Prop := tyV K T x H ∧ R
theorem e_bm {T : String} {r : V → List V → Hp → VK → Prop} (h : te σ H fun x H1 => rRecv K T x H1 (tr σ H1 fun xs H2 => r x xs H2 Q)) : tBM K T r te tr σ H Q := h
theorem e_bm0 {T : String} {r : V → List V → Hp → VK → Prop} (h : te σ H fun x H1 => rRecv K T x H1 (r x [] H1 Q)) : tBM0 K T r te σ H Q := h
def rMeth (C : Addr) (m : Str) (x : V) (H : Hp) (R : Prop) : Prop := ∃ a dx fs, x = .ref a ∧ H a = some (.ins C dx fs) ∧ fs.lookup m = none ∧ R
theorem e_meth {C : Addr} {m : Str} {sp : Sp} {dvs : List V} {E : XK} (h : ta σ H fun x H1 => rMeth C m x H1 (tr σ H1 fun vs H2 => sp (x :: (vs ++ dvs)) H2 Q E)) : tMeth C m sp dvs E ta tr σ H Q := h
theorem w_meth {C : Addr} {m : Str} {a dx : Addr} {fs : List (Str × V)} {R : Prop} (h : H a = some (.ins C dx fs)) (n : fs.lookup m = none) (q : R) : rMeth C m (.ref a) H R := ⟨a, dx, fs, rfl, h, n, q⟩
def rMake (C : Addr) (sp : Sp) (vs : List V) (H : Hp) (E : XK) (Q : VK) : Prop := ∀ x dx, H x = none → H dx = none → dx ≠ x → sp (.ref x :: vs) (upd (upd H dx (.own x)) x (.ins C dx [])) (fun v H2 => v = .non ∧ Q (.ref x) H2) E
theorem e_make {C : Addr} {sp : Sp} {dvs : List V} {E : XK} (h : tr σ H fun vs H1 => rMake C sp (vs ++ dvs) H1 E Q) : tMake C sp dvs E tr σ H Q := h
theorem w_make {C : Addr} {sp : Sp} {vs : List V} {E : XK} (q : ∀ x dx H1, H x = none → Keep [] H H1 → H1 x = some (.ins C dx []) → sp (.ref x :: vs) H1 (fun v H2 => v = .non ∧ Q (.ref x) H2) E) : rMake C sp vs H E Q := fun x dx hx hd ne =>
  q x dx _ hx (Keep.trans (Keep.new hd) (Keep.new (by rw [upd_ne (Ne.symm ne)]; exact hx))) upd_same
/-! tests -/
def rB (x : V) (H : Hp) (P : Bool → Hp → Prop) : Prop := ∃ k, x = .bl k ∧ P k H
theorem t_test (h : te σ H fun x H' => rB x H' P) : tTest te σ H P := h
theorem t_B (h : te σ H fun x H' => rB x H' P) : tB te σ H P := h
theorem w_B {b : Bool} (h : P b H) : rB (.bl b) H P := ⟨b, rfl, h⟩
theorem t_and (h : tA σ H fun c H1 => if c = true then tB' σ H1 P else P false H1) : tAnd tA tB' σ H P := h
theorem t_or (h : tA σ H fun c H1 => if c = true then P true H1 else tB' σ H1 P) : tOr tA tB' σ H P := h
theorem t_not (h : tA σ H fun c H1 => P (!c) H1) : tNot tA σ H P := h
def rBV (x : V) (H : Hp) (R : Bool → Prop) : Prop := ∃ c, x = .bl c ∧ R c
theorem w_BV {b : Bool} {R : Bool → Prop} (h : R b) : rBV (.bl b) H R := ⟨b, rfl, h⟩
theorem e_andV (h : ta σ H fun x H1 => rBV x H1 fun c => if c = true then tb σ H1 Q else Q (.bl false) H1) : tAndV ta tb σ H Q := h
theorem e_orV (h : ta σ H fun x H1 => rBV x H1 fun c => if c = true then Q (.bl true) H1 else tb σ H1 Q) : tOrV ta tb σ H Q := h
theorem e_notV (h : ta σ H fun x H1 => rBV x H1 fun c => Q (.bl (!c)) H1) : tNotV ta σ H Q := h
theorem e_chain (h : ta σ H fun x H1 => tb σ H1 fun y H2 => r x y H2 fun z H3 => rBV z H3 fun k => if k = true then tc σ H3 fun w' H4 => r2 y w' H4 Q else Q (.bl false) H3) : tChain r r2 ta tb tc σ H Q := h
/-! values -/
theorem w_I0 {g : Int → Int → V} (q : Q (g i j) H) : rI0 g (.int i) (.int j) H Q := ⟨i, j, rfl, rfl, q⟩
theorem w_I {C : Int → Int → Prop} {g : Int → Int → V} (c : C i j) (q : Q (g i j) H) : rI C g (.int i) (.int j) H Q := ⟨i, j, rfl, rfl, c, q⟩
theorem w_U {g : Int → V} (q : Q (g i) H) : rU g (.int i) H Q := ⟨i, rfl, q⟩
theorem w_eqI (q : Q (.bl (decide (i = j))) H) : rEq (.int i) (.int j) H Q := ⟨rfl, by
  have e : decide (V.int i = V.int j) = decide (i = j) := by
    by_cases h : i = j
    · subst h; simp
    · rw [decide_eq_false h, decide_eq_false (fun q => h (V.int.inj q))]
  rw [e]; exact q⟩
theorem w_neI (q : Q (.bl (!decide (i = j))) H) : rNe (.int i) (.int j) H Q := ⟨rfl, by
  have e : decide (V.int i = V.int j) = decide (i = j) := by
    by_cases h : i = j
    · subst h; simp
    · rw [decide_eq_false h, decide_eq_false (fun q => h (V.int.inj q))]
  rw [e]; exact q⟩
theorem w_eqS {s t : Str} (q : Q (.bl (decide (s = t))) H) : rEq (.str s) (.str t) H Q := ⟨rfl, by
  have e : decide (V.str s = V.str t) = decide (s = t) := by
    by_cases h : s = t
    · subst h; simp
    · rw [decide_eq_false h, decide_eq_false (fun q => h (V.str.inj q))]
  rw [e]; exact q⟩
theorem w_neS {s t : Str} (q : Q (.bl (!decide (s = t))) H) : rNe (.str s) (.str t) H Q := ⟨rfl, by
  have e : decide (V.str s = V.str t) = decide (s = t) := by
    by_cases h : s = t
    · subst h; simp
    · rw [decide_eq_false h, decide_eq_false (fun q => h (V.str.inj q))]
  rw [e]; exact q⟩
theorem w_eqB {s t : Bool} (q : Q (.bl (decide (s = t))) H) : rEq (.bl s) (.bl t) H Q := ⟨rfl, by
  have e : decide (V.bl s = V.bl t) = decide (s = t) := by
    by_cases h : s = t
    · subst h; simp
    · rw [decide_eq_false h, decide_eq_false (fun q => h (V.bl.inj q))]
  rw [e]; exact q⟩
theorem w_neB {s t : Bool} (q : Q (.bl (!decide (s = t))) H) : rNe (.bl s) (.bl t) H Q := ⟨rfl, by
  have e : decide (V.bl s = V.bl t) = decide (s = t) := by
    by_cases h : s = t
    · subst h; simp
    · rw [decide_eq_false h, decide_eq_false (fun q => h (V.bl.inj q))]
  rw [e]; exact q⟩
theorem w_neN (q : Q (.bl true) H) : rNe (.int i) .non H Q := ⟨rfl, q⟩
theorem w_eqN (q : Q (.bl false) H) : rEq (.int i) .non H Q := ⟨rfl, q⟩
theorem w_ixL {p : Addr} {xs : List V} {n : Nat} (h : SqL K H p xs) (e : atI xs i = some v) (q : Q v H) : rIxL K (.ref p) (.int i) H Q := ⟨p, xs, i, v, rfl, rfl, h, e, q⟩
theorem w_ixT {p : Addr} {xs : List V} {n : Nat} (h : SqT K H p xs) (e : atI xs i = some v) (q : Q v H) : rIxT K (.ref p) (.int i) H Q := ⟨p, xs, i, v, rfl, rfl, h, e, q⟩
theorem w_aug {f : Int → Int → Int} (q : Q (.int (f i j)) H) : ipI f (.int i) (.int j) H Q := ⟨i, j, rfl, rfl, q⟩
theorem w_app {l : Addr} {xs : List V} (h : H l = some (.lst xs)) (z : xs.length < sizeLine) (q : ∀ H1, Keep [l] H H1 → H1 l = some (.lst (xs ++ [y])) → Q .non H1) : rAppend (.ref l) [y] H Q := ⟨l, xs, y, rfl, rfl, h, z, q _ (put_lst h) upd_same⟩
theorem w_ext {l b : Addr} {xs zs : List V} (h : H l = some (.lst xs)) (h2 : H b = some (.lst zs)) (z : xs.length + zs.length ≤ sizeLine) (q : ∀ H1, Keep [l] H H1 → H1 l = some (.lst (xs ++ zs)) → Q .non H1) : rExtend (.ref l) [.ref b] H Q := ⟨l, b, xs, zs, rfl, rfl, h, h2, z, q _ (put_lst h) upd_same⟩
theorem w_recv {l : Addr} {xs : List V} {R : Prop} (h : SqL K H l xs) (q : R) : rRecv K "list" (.ref l) H R := ⟨.inl ⟨rfl, xs, h⟩, q⟩
theorem w_tyL {l : Addr} {xs : List V} (h : SqL K H l xs) : tyV K "list" (.ref l) H := .inl ⟨rfl, xs, h⟩
end

/-! ### built-ins by names of their own -/
def rLen (K : PySem.W.Frag) : List V → Hp → VK → Prop := fun xs H Q => ∃ p ys, xs = [.ref p] ∧ (SqL K H p ys ∨ SqT K H p ys) ∧ Q (.int ys.length) H
def rLenS : List V → Hp → VK → Prop := fun xs H Q => ∃ z : Str, xs = [.str z] ∧ z.length ≤ sizeLine ∧ Q (.int z.length) H
def rListL (K : PySem.W.Frag) : List V → Hp → VK → Prop := fun xs H Q => ∃ p ys, xs = [.ref p] ∧ (SqL K H p ys ∨ SqT K H p ys) ∧ ∀ l, H l = none → Q (.ref l) (upd H l (.lst ys))
def rTupL (K : PySem.W.Frag) : List V → Hp → VK → Prop := fun xs H Q => ∃ p ys, xs = [.ref p] ∧ ((SqL K H p ys ∧ ∀ l, H l = none → Q (.ref l) (upd H l (.tup ys))) ∨ (SqT K H p ys ∧ Q (.ref p) H))
def rInt1 : List V → Hp → VK → Prop := fun xs H Q => (∃ i, xs = [.int i] ∧ Q (.int i) H) ∨ ∃ k, xs = [.bl k] ∧ Q (.int (if k then 1 else 0)) H
def rMin2 : List V → Hp → VK → Prop := fun xs H Q => ∃ i j, xs = [.int i, .int j] ∧ Q (.int (if j < i then j else i)) H
def rMax2 : List V → Hp → VK → Prop := fun xs H Q => ∃ i j, xs = [.int i, .int j] ∧ Q (.int (if j > i then j else i)) H
def rIsNo : R2 := fun x y H Q => y = .non ∧ Q (.bl (decide (x = .non))) H
def rIsNot : R2 := fun x y H Q => y = .non ∧ Q (.bl (!decide (x = .non))) H
def rAddS : R2 := fun x y H Q => ∃ i j, x = .str i ∧ y = .str j ∧ i.length + j.length ≤ sizeLine ∧ Q (.str (i ++ j)) H
def rIxLT (K : PySem.W.Frag) : R2 := fun x y H Q => rIxL K x y H Q ∨ rIxT K x y H Q
section
variable {X : Cx}
theorem call_lenL : CallR X (.builtin "len") (rLen X.K) := call_len_seq
theorem call_lenS : CallR X (.builtin "len") rLenS := call_len_str
theorem call_listL : CallR X (.type "list") (rListL X.K) := call_list_of
theorem call_tupleL : CallR X (.type "tuple") (rTupL X.K) := call_tuple_of
theorem call_int : CallR X (.type "int") rInt1 := call_int1
theorem call_min (hc : X.calm = true) : CallR X (.builtin "min") rMin2 := call_min2 hc
theorem call_max (hc : X.calm = true) : CallR X (.builtin "max") rMax2 := call_max2 hc
theorem op_isNo : OpR X (compareOp .Is) rIsNo := op_isN
theorem op_isNot : OpR X (compareOp .IsNot) rIsNot := op_notN
theorem op_addS : OpR X (binaryOp .Add) rAddS := op_add_str
theorem ix_lt : IxR X (rIxLT X.K) := ix_list.or ix_tup
end
section
variable {H : Hp} {Q : VK} {K : PySem.W.Frag} {p : Addr} {ys : List V}
theorem w_int {i : Int} (q : Q (.int i) H) : rInt1 [.int i] H Q := .inl ⟨i, rfl, q⟩
theorem w_intB {k : Bool} (q : Q (.int (if k then 1 else 0)) H) : rInt1 [.bl k] H Q := .inr ⟨k, rfl, q⟩
theorem w_min {i j : Int} (q : Q (.int (if j < i then j else i)) H) : rMin2 [.int i, .int j] H Q := ⟨i, j, rfl, q⟩
theorem w_max {i j : Int} (q : Q (.int (if j > i then j else i)) H) : rMax2 [.int i, .int j] H Q := ⟨i, j, rfl, q⟩
theorem w_isN (q : Q (.bl true) H) : rIsNo .non .non H Q := ⟨rfl, q⟩
theorem w_isI {i : Int} (q : Q (.bl false) H) : rIsNo (.int i) .non H Q := ⟨rfl, q⟩
theorem w_isS {z : Str} (q : Q (.bl false) H) : rIsNo (.str z) .non H Q := ⟨rfl, q⟩
theorem w_isB {b : Bool} (q : Q (.bl false) H) : rIsNo (.bl b) .non H Q := ⟨rfl, q⟩
theorem w_isR {a : Addr} (q : Q (.bl false) H) : rIsNo (.ref a) .non H Q := ⟨rfl, q⟩
theorem w_notN (q : Q (.bl false) H) : rIsNot .non .non H Q := ⟨rfl, q⟩
theorem w_notI {i : Int} (q : Q (.bl true) H) : rIsNot (.int i) .non H Q := ⟨rfl, q⟩
theorem w_notR {a : Addr} (q : Q (.bl true) H) : rIsNot (.ref a) .non H Q := ⟨rfl, q⟩
theorem w_notS {z : Str} (q : Q (.bl true) H) : rIsNot (.str z) .non H Q := ⟨rfl, q⟩
theorem w_addS {s t : Str} (h : s.length + t.length ≤ sizeLine) (q : Q (.str (s ++ t)) H) : rAddS (.str s) (.str t) H Q := ⟨s, t, rfl, rfl, h, q⟩
theorem w_eqNI {j : Int} (q : Q (.bl false) H) : rEq .non (.int j) H Q := ⟨rfl, q⟩
theorem w_neNI {j : Int} (q : Q (.bl true) H) : rNe .non (.int j) H Q := ⟨rfl, q⟩
theorem w_ixLTl {xs : List V} {i : Int} {v : V} (h : SqL K H p xs) (e : atI xs i = some v) (q : Q v H) : rIxLT K (.ref p) (.int i) H Q := .inl ⟨p, xs, i, v, rfl, rfl, h, e, q⟩
theorem w_ixLTt {xs : List V} {i : Int} {v : V} (h : SqT K H p xs) (e : atI xs i = some v) (q : Q v H) : rIxLT K (.ref p) (.int i) H Q := .inr ⟨p, xs, i, v, rfl, rfl, h, e, q⟩
theorem w_set {xs : List V} {k : Int} {v : V} {j : Nat} {R : Hp → Prop} (h : H p = some (.lst xs)) (e : ixN xs.length k = some j) (q : ∀ H1, Keep [p] H H1 → H1 p = some (.lst (xs.set j v)) → R H1) : rSetL (.ref p) (.int k) v H R := ⟨p, xs, k, j, rfl, rfl, h, e, q _ (put_lst h) upd_same⟩
theorem w_cat {a b : Addr} {xs zs : List V} (h : H a = some (.lst xs)) (h2 : H b = some (.lst zs)) (z : xs.length + zs.length ≤ sizeLine) (q : ∀ l H1, H l = none → Keep [] H H1 → H1 l = some (.lst (xs ++ zs)) → Q (.ref l) H1) : rCat (.ref a) (.ref b) H Q := ⟨a, b, xs, zs, rfl, rfl, h, h2, z, fun l hl => q l _ hl (Keep.new hl) upd_same⟩
theorem w_slL {xs : List V} {lo hi : Option Int} (h : SqL K H p xs) (q : ∀ l H1, H l = none → Keep [] H H1 → H1 l = some (.lst (cutV xs lo hi)) → Q (.ref l) H1) : rSlL K (.ref p) lo hi H Q := ⟨p, xs, rfl, h, fun l hl => q l _ hl (Keep.new hl) upd_same⟩
theorem w_slS {z : Str} {lo hi : Option Int} (h : z.length ≤ sizeLine) (q : Q (.str (cutS z lo hi)) H) : rSlS (.str z) lo hi H Q := ⟨z, rfl, h, q⟩
theorem w_ixS {z : Str} {i : Int} {c : Nat} (h : z.length ≤ sizeLine) (e : atI z.cps.toList i = some c) (q : Q (.str ⟨#[c]⟩) H) : rIxS (.str z) (.int i) H Q := ⟨z, i, c, rfl, rfl, h, e, q⟩
theorem w_lenL (h : SqL K H p ys) (q : Q (.int ys.length) H) : rLen K [.ref p] H Q := ⟨p, ys, rfl, .inl h, q⟩
theorem w_lenT (h : SqT K H p ys) (q : Q (.int ys.length) H) : rLen K [.ref p] H Q := ⟨p, ys, rfl, .inr h, q⟩
theorem w_lenS {z : Str} (h : z.length ≤ sizeLine) (q : Q (.int z.length) H) : rLenS [.str z] H Q := ⟨z, rfl, h, q⟩
theorem w_listL (h : SqL K H p ys) (q : ∀ l H1, H l = none → Keep [] H H1 → H1 l = some (.lst ys) → Q (.ref l) H1) : rListL K [.ref p] H Q := ⟨p, ys, rfl, .inl h, fun l hl => q l _ hl (Keep.new hl) upd_same⟩
theorem w_listT (h : SqT K H p ys) (q : ∀ l H1, H l = none → Keep [] H H1 → H1 l = some (.lst ys) → Q (.ref l) H1) : rListL K [.ref p] H Q := ⟨p, ys, rfl, .inr h, fun l hl => q l _ hl (Keep.new hl) upd_same⟩
theorem w_tupL (h : SqL K H p ys) (q : ∀ l H1, H l = none → Keep [] H H1 → H1 l = some (.tup ys) → Q (.ref l) H1) : rTupL K [.ref p] H Q := ⟨p, ys, rfl, .inl ⟨h, fun l hl => q l _ hl (Keep.new hl) upd_same⟩⟩
end

/-! ### xs[i] op= e -/
section
variable {X : Cx}
open PyProof.Rows in
theorem get_list : PGet X (rIxL X.K) := by
  intro pins s σ H o i ov iv Q I ro ri h
  obtain ⟨p, xs, i, z, rfl, rfl, hq, he, q⟩ := h
  cases ro
  obtain ⟨t, rfl⟩ := ri
  obtain ⟨its, r, pl, hz⟩ := I.list hq
  obtain ⟨j, h1, h2, h3, h4, h5⟩ := atI_get he
  obtain ⟨w, ew, rw'⟩ := r.get h2
  have hl := r.length
  have hn := line63
  have fin : EP X pins σ Q w s := ⟨z, H, I, rw', q⟩
  by_cases h0 : 0 ≤ i
  · have hj : i.toNat = j := by
      rw [seqIndex_of h0 h5] at h1
      exact Option.some.inj h1
    exact wpAny_getItem_list pl.isList h0 (by omega) (by rw [hj]; simpa using ew) fin
  · have hj : (i + (its.toArray.size : Int)).toNat = j := by
      rw [seqIndex_neg (by omega) h4] at h1
      rw [List.size_toArray, ← hl]
      exact Option.some.inj h1
    exact wpAny_getItem_list_neg pl.isList (by omega) (by rw [List.size_toArray] <;> omega) (by omega) (by rw [hj]; simpa using ew) fin
end

/-! ### loops -/
section
variable {K : PySem.W.Frag} {g : TG} {tb : TS} {nx : L2.St → Hp → Prop} {rt : VK} {bk ct : L2.St → Hp → Prop} {D : Ends} {σ : L2.St} {H : Hp} {tl : TE} {ta : TA} {a b : Addr} {xs ys : List V}
def kForL (K : PySem.W.Frag) (g : TG) (tb : TS) (D : Ends) (σ : L2.St) (x : V) (H : Hp) : Prop := tFor (iList K (tC x)) g tb D σ H
def kForT (K : PySem.W.Frag) (g : TG) (tb : TS) (D : Ends) (σ : L2.St) (x : V) (H : Hp) : Prop := tFor (iTup K (tC x)) g tb D σ H
def kForS (g : TG) (tb : TS) (D : Ends) (σ : L2.St) (x : V) (H : Hp) : Prop := tFor (iStr (tC x)) g tb D σ H
def kForR1 (g : TG) (tb : TS) (D : Ends) (σ : L2.St) (vs : List V) (H : Hp) : Prop := tFor (iRng1 fun _ H R => R vs H) g tb D σ H
def kForR2 (g : TG) (tb : TS) (D : Ends) (σ : L2.St) (vs : List V) (H : Hp) : Prop := tFor (iRng2 fun _ H R => R vs H) g tb D σ H
def kForR3 (g : TG) (tb : TS) (D : Ends) (σ : L2.St) (vs : List V) (H : Hp) : Prop := tFor (iRng3 fun _ H R => R vs H) g tb D σ H
def kForZ (K : PySem.W.Frag) (g : TG) (tb : TS) (D : Ends) (σ : L2.St) (vs : List V) (H : Hp) : Prop := tFor (iZip K fun _ H R => R vs H) g tb D σ H
def kForE (K : PySem.W.Frag) (g : TG) (tb : TS) (D : Ends) (σ : L2.St) (vs : List V) (H : Hp) : Prop := tFor (iEnum K fun _ H R => R vs H) g tb D σ H
theorem s_forL (h : tl σ H fun x H1 => kForL K g tb D σ x H1) : tFor (iList K tl) g tb D σ H := h
theorem s_forT (h : tl σ H fun x H1 => kForT K g tb D σ x H1) : tFor (iTup K tl) g tb D σ H := h
theorem s_forS (h : tl σ H fun x H1 => kForS g tb D σ x H1) : tFor (iStr tl) g tb D σ H := h
theorem s_forR1 (h : ta σ H fun vs H1 => kForR1 g tb D σ vs H1) : tFor (iRng1 ta) g tb D σ H := h
theorem s_forR2 (h : ta σ H fun vs H1 => kForR2 g tb D σ vs H1) : tFor (iRng2 ta) g tb D σ H := h
theorem s_forR3 (h : ta σ H fun vs H1 => kForR3 g tb D σ vs H1) : tFor (iRng3 ta) g tb D σ H := h
theorem s_forZ (h : ta σ H fun vs H1 => kForZ K g tb D σ vs H1) : tFor (iZip K ta) g tb D σ H := h
theorem s_forE (h : ta σ H fun vs H1 => kForE K g tb D σ vs H1) : tFor (iEnum K ta) g tb D σ H := h
theorem forL (h : SqL K H a xs) (Pv : Nat → L2.St → Hp → Prop) (h0 : Pv 0 σ H) (hl : ∀ i σ H, i ≤ xs.length → Pv i σ H → SqL K H a xs)
    (hs : ∀ i x σ H, xs[i]? = some x → Pv i σ H → g x σ H fun σ2 H2 => tb ⟨Pv (i + 1), rt, nx, Pv (i + 1)⟩ σ2 H2) (hd : ∀ σ H, Pv xs.length σ H → nx σ H) : kForL K g tb ⟨nx, rt, bk, ct⟩ σ (.ref a) H :=
  ⟨a, rfl, ⟨xs, h⟩, for_list Pv h0 hl hs hd⟩
theorem forT (h : SqT K H a xs) (Pv : Nat → L2.St → Hp → Prop) (h0 : Pv 0 σ H) (hl : ∀ i σ H, i ≤ xs.length → Pv i σ H → SqT K H a xs)
    (hs : ∀ i x σ H, xs[i]? = some x → Pv i σ H → g x σ H fun σ2 H2 => tb ⟨Pv (i + 1), rt, nx, Pv (i + 1)⟩ σ2 H2) (hd : ∀ σ H, Pv xs.length σ H → nx σ H) : kForT K g tb ⟨nx, rt, bk, ct⟩ σ (.ref a) H :=
  ⟨a, rfl, ⟨xs, h⟩, for_tup Pv h0 hl hs hd⟩
theorem forR1 {n : Int} (h1 : -(2 ^ 62) ≤ n) (h2 : n < 2 ^ 62) (Pv : Nat → L2.St → Hp → Prop) (h0 : Pv 0 σ H)
    (hs : ∀ (i : Nat) σ H, (i : Int) < n → Pv i σ H → g (.int (i : Int)) σ H fun σ2 H2 => tb ⟨Pv (i + 1), rt, nx, Pv (i + 1)⟩ σ2 H2) (hd : ∀ σ H, Pv n.toNat σ H → nx σ H) : kForR1 g tb ⟨nx, rt, bk, ct⟩ σ [.int n] H :=
  ⟨n, rfl, h1, h2, for_range (lo := 0) (n := n.toNat) Pv h0 (fun i σ' H' hi p => by
    have e0 : (0 : Int) + (i : Int) = (i : Int) := Int.zero_add _
    rw [e0]
    exact hs i σ' H' (by omega) p) hd⟩
theorem forR2 {lo n : Int} (hb : -(2 ^ 62) ≤ lo ∧ lo < 2 ^ 62 ∧ -(2 ^ 62) ≤ n ∧ n < 2 ^ 62) (Pv : Nat → L2.St → Hp → Prop) (h0 : Pv 0 σ H)
    (hs : ∀ (i : Nat) σ H, lo + (i : Int) < n → Pv i σ H → g (.int (lo + (i : Int))) σ H fun σ2 H2 => tb ⟨Pv (i + 1), rt, nx, Pv (i + 1)⟩ σ2 H2) (hd : ∀ σ H, Pv (n - lo).toNat σ H → nx σ H) : kForR2 g tb ⟨nx, rt, bk, ct⟩ σ [.int lo, .int n] H :=
  ⟨lo, n, rfl, hb, for_range (lo := lo) (n := (n - lo).toNat) Pv h0 (fun i σ' H' hi p => hs i σ' H' (by omega) p) hd⟩
/-! while -/
def rTurn (W : Nat → L2.St → Hp → Prop) (m : Nat) (tb : TS) (D : Ends) (σ : L2.St) (H : Hp) : Prop := ∃ N : L2.St → Hp → Prop, (∀ σ' H', N σ' H' → ∃ m', m' < m ∧ W m' σ' H') ∧ tb { D with nx := N, ct := N, bk := D.nx } σ H
theorem turn {W : Nat → L2.St → Hp → Prop} {m : Nat} (h : tb ⟨fun σ' H' => ∃ m', m' < m ∧ W m' σ' H', rt, nx, fun σ' H' => ∃ m', m' < m ∧ W m' σ' H'⟩ σ H) : rTurn W m tb ⟨nx, rt, bk, ct⟩ σ H := ⟨_, fun _ _ x => x, h⟩
theorem while_ {c : TT} (W : Nat → L2.St → Hp → Prop) (m0 : Nat) (h0 : W m0 σ H) (hs : ∀ m σ H, W m σ H → c σ H fun b H1 => if b = true then rTurn W m tb ⟨nx, rt, bk, ct⟩ σ H1 else nx σ H1) : tWhile c tb ⟨nx, rt, bk, ct⟩ σ H :=
  ⟨W, ⟨m0, h0⟩, hs⟩
/-! comprehensions -/
variable {tt : TT} {te : TE} {vs : List Nat} {Q : VK}
def kLcL (K : PySem.W.Frag) (g : TG) (tt : TT) (te : TE) (vs : List Nat) (σ : L2.St) (x : V) (H : Hp) (Q : VK) : Prop := tLc (iList K (tC x)) g tt te vs σ H Q
def kLcR1 (g : TG) (tt : TT) (te : TE) (vs : List Nat) (σ : L2.St) (zs : List V) (H : Hp) (Q : VK) : Prop := tLc (iRng1 fun _ H R => R zs H) g tt te vs σ H Q
def kLcR2 (g : TG) (tt : TT) (te : TE) (vs : List Nat) (σ : L2.St) (zs : List V) (H : Hp) (Q : VK) : Prop := tLc (iRng2 fun _ H R => R zs H) g tt te vs σ H Q
def kLcZ (K : PySem.W.Frag) (g : TG) (tt : TT) (te : TE) (vs : List Nat) (σ : L2.St) (zs : List V) (H : Hp) (Q : VK) : Prop := tLc (iZip K fun _ H R => R zs H) g tt te vs σ H Q
def kLcS (g : TG) (tt : TT) (te : TE) (vs : List Nat) (σ : L2.St) (x : V) (H : Hp) (Q : VK) : Prop := tLc (iStr (tC x)) g tt te vs σ H Q
theorem e_lcL (h : tl σ H fun x H1 => kLcL K g tt te vs σ x H1 Q) : tLc (iList K tl) g tt te vs σ H Q := h
theorem e_lcR1 (h : ta σ H fun zs H1 => kLcR1 g tt te vs σ zs H1 Q) : tLc (iRng1 ta) g tt te vs σ H Q := h
theorem e_lcR2 (h : ta σ H fun zs H1 => kLcR2 g tt te vs σ zs H1 Q) : tLc (iRng2 ta) g tt te vs σ H Q := h
theorem e_lcZ (h : ta σ H fun zs H1 => kLcZ K g tt te vs σ zs H1 Q) : tLc (iZip K ta) g tt te vs σ H Q := h
theorem e_lcS (h : tl σ H fun x H1 => kLcS g tt te vs σ x H1 Q) : tLc (iStr tl) g tt te vs σ H Q := h
def rApp (D : Addr) (y : V) (H : Hp) (R : Hp → Prop) : Prop := ∃ acc, H D = some (.lst acc) ∧ acc.length < sizeLine ∧ R (upd H D (.lst (acc ++ [y])))
theorem lcL (h : SqL K H a xs) (Pv : Addr → Nat → Hp → Prop) (h0 : ∀ D H1, H D = none → Keep [] H H1 → H1 D = some (.lst []) → Pv D 0 H1) (hl : ∀ D i H, i ≤ xs.length → Pv D i H → SqL K H a xs)
    (hs : ∀ D i x H', H D = none → xs[i]? = some x → Pv D i H' → g x (wipe σ vs) H' fun σ2 H2 => wipe σ2 vs = wipe σ vs ∧ tt σ2 H2 fun b H3 => if b = true then te σ2 H3 fun y H4 => rApp D y H4 (Pv D (i + 1)) else Pv D (i + 1) H3)
    (hd : ∀ D H', H D = none → Pv D xs.length H' → Q (.ref D) H') : kLcL K g tt te vs σ (.ref a) H Q :=
  ⟨a, rfl, ⟨xs, h⟩, fun D hD => lc_list (Pv D) (h0 D _ hD (Keep.new hD) upd_same) (hl D) (fun i x H' hi p => hs D i x H' hD hi p) (fun H' p => hd D H' hD p)⟩
theorem lcR1 {n : Int} (h1 : -(2 ^ 62) ≤ n) (h2 : n < 2 ^ 62) (Pv : Addr → Nat → Hp → Prop) (h0 : ∀ D H1, H D = none → Keep [] H H1 → H1 D = some (.lst []) → Pv D 0 H1)
    (hs : ∀ D (i : Nat) H', H D = none → (i : Int) < n → Pv D i H' → g (.int (i : Int)) (wipe σ vs) H' fun σ2 H2 => wipe σ2 vs = wipe σ vs ∧ tt σ2 H2 fun b H3 => if b = true then te σ2 H3 fun y H4 => rApp D y H4 (Pv D (i + 1)) else Pv D (i + 1) H3)
    (hd : ∀ D H', H D = none → Pv D n.toNat H' → Q (.ref D) H') : kLcR1 g tt te vs σ [.int n] H Q :=
  ⟨n, rfl, h1, h2, fun D hD => lc_range (lo := 0) (n := n.toNat) (Pv D) (h0 D _ hD (Keep.new hD) upd_same) (fun i H' hi p => by
    have e0 : (0 : Int) + (i : Int) = (i : Int) := Int.zero_add _
    rw [e0]
    exact hs D i H' hD (by omega) p) (fun H' p => hd D H' hD p)⟩
theorem lcR2 {lo n : Int} (hb : -(2 ^ 62) ≤ lo ∧ lo < 2 ^ 62 ∧ -(2 ^ 62) ≤ n ∧ n < 2 ^ 62) (Pv : Addr → Nat → Hp → Prop) (h0 : ∀ D H1, H D = none → Keep [] H H1 → H1 D = some (.lst []) → Pv D 0 H1)
    (hs : ∀ D (i : Nat) H', H D = none → lo + (i : Int) < n → Pv D i H' → g (.int (lo + (i : Int))) (wipe σ vs) H' fun σ2 H2 => wipe σ2 vs = wipe σ vs ∧ tt σ2 H2 fun b H3 => if b = true then te σ2 H3 fun y H4 => rApp D y H4 (Pv D (i + 1)) else Pv D (i + 1) H3)
    (hd : ∀ D H', H D = none → Pv D (n - lo).toNat H' → Q (.ref D) H') : kLcR2 g tt te vs σ [.int lo, .int n] H Q :=
  ⟨lo, n, rfl, hb, fun D hD => lc_range (lo := lo) (n := (n - lo).toNat) (Pv D) (h0 D _ hD (Keep.new hD) upd_same) (fun i H' hi p => hs D i H' hD (by omega) p) (fun H' p => hd D H' hD p)⟩
theorem t_yes {P : Bool → Hp → Prop} (h : P true H) : tYes σ H P := h
theorem w_rApp {p : Addr} {y : V} {acc : List V} {R : Hp → Prop} (h : H p = some (.lst acc)) (z : acc.length < sizeLine) (q : ∀ H1, Keep [p] H H1 → H1 p = some (.lst (acc ++ [y])) → R H1) : rApp p y H R := ⟨acc, h, z, q _ (put_lst h) upd_same⟩
theorem w_tup {n : Nat} {t : TGs} {P : L2.St → Hp → Prop} (h : SqT K H a xs) (e : xs.length = n) (q : t xs σ H P) : gTup K n t (.ref a) σ H P := ⟨a, xs, rfl, h, e, q⟩
theorem w_gcons {t : TG} {u : TGs} {v : V} {r : List V} {P : L2.St → Hp → Prop} (q : t v σ H fun σ' H' => u r σ' H' P) : gCons t u (v :: r) σ H P := ⟨v, r, rfl, q⟩
theorem w_gnil {P : L2.St → Hp → Prop} (q : P σ H) : gNil [] σ H P := ⟨rfl, q⟩
def rPar (i j : Nat) (vs : List V) (σ : L2.St) (H : Hp) (P : L2.St → Hp → Prop) : Prop := ∃ v w, vs = [v, w] ∧ P ((σ.set i (some v)).set j (some w)) H
theorem s_par {i j : Nat} (h : ta σ H fun vs H1 => rPar i j vs σ H1 nx) : tPar i j ta ⟨nx, rt, bk, ct⟩ σ H := h
theorem w_par {i j : Nat} {v w : V} {P : L2.St → Hp → Prop} (h : P ((σ.set i (some v)).set j (some w)) H) : rPar i j [v, w] σ H P := ⟨v, w, rfl, h⟩
end

/-! ### pairs of a heap and data -/
/-- each value is a tuple that stands at H -/
def Tups {α : Type} (f : α → List V) (H : Hp) (vs : List V) (xs : List α) : Prop := Paired (fun v x => ∃ t, v = V.ref t ∧ H t = some (.tup (f x))) vs xs
section
variable {α β : Type} {f : α → List V} {H H' : Hp} {vs ws : List V} {xs ys : List α}
theorem Tups.mono (h : Tups f H vs xs) (k : ∀ b zs, H b = some (.tup zs) → H' b = some (.tup zs)) : Tups f H' vs xs := Paired.mapP h fun _ _ ⟨t, e, q⟩ => ⟨t, e, k _ _ q⟩
theorem Tups.keep {S : List Addr} (h : Tups f H vs xs) (k : Keep S H H') : Tups f H' vs xs := h.mono k.2
theorem Tups.nil : Tups f H [] [] := Paired.nil
theorem Tups.len (h : Tups f H vs xs) : vs.length = xs.length := Paired.length h
theorem Tups.snoc {t : Addr} {x : α} (h : Tups f H vs xs) (q : H t = some (.tup (f x))) : Tups f H (vs ++ [.ref t]) (xs ++ [x]) := Paired.snoc h ⟨t, rfl, q⟩
end
section
variable {α β : Type} {F : α → β → Prop}
theorem pd_append : ∀ {vs ws : List α} {xs ys : List β}, Paired F vs xs → Paired F ws ys → Paired F (vs ++ ws) (xs ++ ys)
  | _, _, _, _, .nil, h => h
  | _, _, _, _, .cons a r, h => .cons a (pd_append r h)
theorem pd_take : ∀ {vs : List α} {xs : List β} (n : Nat), Paired F vs xs → Paired F (vs.take n) (xs.take n)
  | _, _, 0, _ => .nil
  | _, _, _ + 1, .nil => .nil
  | _, _, n + 1, .cons a r => .cons a (pd_take n r)
theorem pd_drop : ∀ {vs : List α} {xs : List β} (n : Nat), Paired F vs xs → Paired F (vs.drop n) (xs.drop n)
  | _, _, 0, h => h
  | _, _, _ + 1, .nil => .nil
  | _, _, n + 1, .cons _ r => pd_drop n r
theorem pd_get : ∀ {vs : List α} {xs : List β} {i : Nat} {v : α}, Paired F vs xs → vs[i]? = some v → ∃ x, xs[i]? = some x ∧ F v x
  | _, _, _, _, .nil, e => by simp at e
  | _, _, 0, _, .cons h _, e => by
    simp at e; subst e
    exact ⟨_, rfl, h⟩
  | _, _, i + 1, v, .cons _ r, e => by
    obtain ⟨x, e1, e2⟩ := pd_get (i := i) (v := v) r (by simpa using e)
    exact ⟨x, by simpa using e1, e2⟩
theorem pd_get' : ∀ {vs : List α} {xs : List β} {i : Nat} {x : β}, Paired F vs xs → xs[i]? = some x → ∃ v, vs[i]? = some v ∧ F v x
  | _, _, _, _, .nil, e => by simp at e
  | _, _, 0, _, .cons h _, e => by
    simp at e; subst e
    exact ⟨_, rfl, h⟩
  | _, _, i + 1, x, .cons _ r, e => by
    obtain ⟨v, e1, e2⟩ := pd_get' (i := i) (x := x) r (by simpa using e)
    exact ⟨v, by simpa using e1, e2⟩
end
section
variable {α β : Type} {f : α → List V} {H H' : Hp} {vs ws : List V} {xs ys : List α}
theorem Tups.append (h : Tups f H vs xs) (k : Tups f H ws ys) : Tups f H (vs ++ ws) (xs ++ ys) := pd_append h k
theorem Tups.take (n : Nat) (h : Tups f H vs xs) : Tups f H (vs.take n) (xs.take n) := pd_take n h
theorem Tups.drop (n : Nat) (h : Tups f H vs xs) : Tups f H (vs.drop n) (xs.drop n) := pd_drop n h
theorem Tups.get {i : Nat} {v : V} (h : Tups f H vs xs) (e : vs[i]? = some v) : ∃ t x, v = .ref t ∧ xs[i]? = some x ∧ H t = some (.tup (f x)) := by
  obtain ⟨x, e1, t, e2, e3⟩ := pd_get h e
  exact ⟨t, x, e2, e1, e3⟩
end

/-! ### ifs -/
theorem ite_dec {p A B : Prop} [Decidable p] (h1 : p → A) (h2 : ¬ p → B) : if decide p = true then A else B := by
  by_cases h : p
  · rw [if_pos (decide_eq_true h)]; exact h1 h
  · rw [if_neg (by rw [decide_eq_false h]; exact Bool.false_ne_true)]; exact h2 h
theorem ite_ndec {p A B : Prop} [Decidable p] (h1 : ¬ p → A) (h2 : p → B) : if (!decide p) = true then A else B := by
  by_cases h : p
  · rw [decide_eq_true h]; exact h2 h
  · rw [decide_eq_false h]; exact h1 h
theorem ite_T {A B : Prop} (h : A) : if true = true then A else B := h
theorem ite_F {A B : Prop} (h : B) : if false = true then A else B := h
theorem ite_nT {A B : Prop} (h : B) : if (!true) = true then A else B := h
theorem ite_nF {A B : Prop} (h : A) : if (!false) = true then A else B := h
theorem ite_self {α : Type} [DecidableEq α] {x : α} {A B : Prop} (h : A) : if decide (x = x) = true then A else B := by rw [decide_eq_true rfl]; exact h
theorem ite_nself {α : Type} [DecidableEq α] {x : α} {A B : Prop} (h : B) : if (!decide (x = x)) = true then A else B := by rw [decide_eq_true rfl]; exact h
theorem ite_tf {A B : Prop} (h : B) : if decide (true = false) = true then A else B := h
theorem ite_ft {A B : Prop} (h : B) : if decide (false = true) = true then A else B := h
theorem ite_ntf {A B : Prop} (h : A) : if (!decide (true = false)) = true then A else B := h
theorem ite_nft {A B : Prop} (h : A) : if (!decide (false = true)) = true then A else B := h
theorem q_self {α : Type} [DecidableEq α] {x : α} {Q : VK} {H : Hp} (h : Q (.bl true) H) : Q (.bl (decide (x = x))) H := by rw [decide_eq_true rfl]; exact h
theorem ite_P {p A B : Prop} [Decidable p] (c : p) (h : A) : if decide p = true then A else B := by rw [if_pos (decide_eq_true c)]; exact h
theorem ite_N {p A B : Prop} [Decidable p] (c : ¬ p) (h : B) : if decide p = true then A else B := by rw [decide_eq_false c]; exact h
end W

end
section
set_option maxHeartbeats 4000000
/-! W2: data as a whole; isinstance -/
namespace W
open PySem PySem.Spec L2
mutual
def Da (H : Hp) : PyData → V → Prop
  | .none, v => v = .non
  | .bool b, v => v = .bl b
  | .int i, v => v = .int i
  | .str s, v => v = .str s
  | .list ds, v => ∃ a xs, v = .ref a ∧ H a = some (.lst xs) ∧ DaL H ds xs
  | .tuple ds, v => ∃ a xs, v = .ref a ∧ H a = some (.tup xs) ∧ DaL H ds xs
  | .dict _, _ => False
def DaL (H : Hp) : List PyData → List V → Prop
  | [], xs => xs = []
  | d :: ds, xs => ∃ v r, xs = v :: r ∧ Da H d v ∧ DaL H ds r
end
mutual
/-- how deep -/
def dep : PyData → Nat
  | .list ds => depL ds + 1
  | .tuple ds => depL ds + 1
  | _ => 0
def depL : List PyData → Nat
  | [] => 0
  | d :: ds => max (dep d) (depL ds)
end
mutual
/-- how wide -/
def wid : PyData → Nat
  | .list ds => max ds.length (widL ds)
  | .tuple ds => max ds.length (widL ds)
  | _ => 0
def widL : List PyData → Nat
  | [] => 0
  | d :: ds => max (wid d) (widL ds)
end
mutual
theorem Da.mono {H H' : Hp} (k : Same H H') : ∀ (d : PyData) (v : V), Da H d v → Da H' d v
  | .none, _, h => by simpa [Da] using h
  | .bool _, _, h => by simpa [Da] using h
  | .int _, _, h => by simpa [Da] using h
  | .str _, _, h => by simpa [Da] using h
  | .list ds, _, h => by
    simp only [Da] at h ⊢
    obtain ⟨a, xs, e, h1, h2⟩ := h
    exact ⟨a, xs, e, k _ _ h1, DaL.mono k ds xs h2⟩
  | .tuple ds, _, h => by
    simp only [Da] at h ⊢
    obtain ⟨a, xs, e, h1, h2⟩ := h
    exact ⟨a, xs, e, k _ _ h1, DaL.mono k ds xs h2⟩
  | .dict _, _, h => by simp [Da] at h
theorem DaL.mono {H H' : Hp} (k : Same H H') : ∀ (ds : List PyData) (xs : List V), DaL H ds xs → DaL H' ds xs
  | [], _, h => by simpa [DaL] using h
  | d :: ds, _, h => by
    simp only [DaL] at h ⊢
    obtain ⟨v, r, e, h1, h2⟩ := h
    exact ⟨v, r, e, Da.mono k d v h1, DaL.mono k ds r h2⟩
end
theorem DaL.len {H : Hp} : ∀ {ds : List PyData} {xs : List V}, DaL H ds xs → xs.length = ds.length
  | [], _, h => by simp only [DaL] at h; subst h; rfl
  | d :: ds, _, h => by
    simp only [DaL] at h
    obtain ⟨v, r, rfl, _, h2⟩ := h
    simp [DaL.len h2]
theorem DaL.get {H : Hp} : ∀ {ds : List PyData} {xs : List V} {i : Nat} {v : V}, DaL H ds xs → xs[i]? = some v → ∃ d, ds[i]? = some d ∧ Da H d v
  | [], _, i, v, h, e => by simp only [DaL] at h; subst h; simp at e
  | d :: ds, _, 0, v, h, e => by
    simp only [DaL] at h
    obtain ⟨u, r, rfl, h1, _⟩ := h
    simp at e; subst e
    exact ⟨d, rfl, h1⟩
  | d :: ds, _, i + 1, v, h, e => by
    simp only [DaL] at h
    obtain ⟨u, r, rfl, _, h2⟩ := h
    obtain ⟨x, e1, e2⟩ := DaL.get (i := i) (v := v) h2 (by simpa using e)
    exact ⟨x, by simpa using e1, e2⟩
theorem DaL.append {H : Hp} : ∀ {ds es : List PyData} {xs ys : List V}, DaL H ds xs → DaL H es ys → DaL H (ds ++ es) (xs ++ ys)
  | [], _, _, _, h, k => by simp only [DaL] at h; subst h; exact k
  | d :: ds, _, _, _, h, k => by
    simp only [DaL] at h
    obtain ⟨u, r, rfl, h1, h2⟩ := h
    show DaL H (d :: (ds ++ _)) (u :: (r ++ _))
    simp only [DaL]
    exact ⟨u, _, rfl, h1, DaL.append h2 k⟩
theorem DaL.snoc {H : Hp} {ds : List PyData} {xs : List V} {d : PyData} {v : V} (h : DaL H ds xs) (k : Da H d v) : DaL H (ds ++ [d]) (xs ++ [v]) :=
  h.append (by simp only [DaL]; exact ⟨v, [], rfl, k, rfl⟩)
theorem DaL.one {H : Hp} {d : PyData} {v : V} (k : Da H d v) : DaL H [d] [v] := by simp only [DaL]; exact ⟨v, [], rfl, k, rfl⟩
theorem DaL.cons {H : Hp} {ds : List PyData} {xs : List V} {d : PyData} {v : V} (k : Da H d v) (h : DaL H ds xs) : DaL H (d :: ds) (v :: xs) := by simp only [DaL]; exact ⟨v, xs, rfl, k, h⟩
theorem DaL.nil {H : Hp} : DaL H [] [] := by simp only [DaL]
theorem DaL.ints {H : Hp} : ∀ ns : List Int, DaL H (ns.map PyData.int) (ns.map V.int)
  | [] => DaL.nil
  | n :: r => DaL.cons (by simp only [Da]) (DaL.ints r)
theorem DaL.bools {H : Hp} : ∀ ns : List Bool, DaL H (ns.map PyData.bool) (ns.map V.bl)
  | [] => DaL.nil
  | n :: r => DaL.cons (by simp only [Da]) (DaL.bools r)
theorem Da.int {H : Hp} {i : Int} : Da H (.int i) (.int i) := by simp only [Da]
theorem Da.bl {H : Hp} {i : Bool} : Da H (.bool i) (.bl i) := by simp only [Da]
theorem Da.str {H : Hp} {i : Str} : Da H (.str i) (.str i) := by simp only [Da]
theorem Da.non {H : Hp} : Da H .none .non := by simp only [Da]
theorem Da.lst {H : Hp} {a : Addr} {xs : List V} {ds : List PyData} (h : H a = some (.lst xs)) (k : DaL H ds xs) : Da H (.list ds) (.ref a) := by simp only [Da]; exact ⟨a, xs, rfl, h, k⟩
theorem Da.tup {H : Hp} {a : Addr} {xs : List V} {ds : List PyData} (h : H a = some (.tup xs)) (k : DaL H ds xs) : Da H (.tuple ds) (.ref a) := by simp only [Da]; exact ⟨a, xs, rfl, h, k⟩
theorem depL_get : ∀ {ds : List PyData} {i : Nat} {d : PyData}, ds[i]? = some d → dep d ≤ depL ds
  | [], _, _, e => by simp at e
  | x :: r, 0, d, e => by simp at e; subst e; simp only [depL]; omega
  | x :: r, i + 1, d, e => by
    have h := depL_get (ds := r) (i := i) (d := d) (by simpa using e)
    simp only [depL]; omega
theorem widL_get : ∀ {ds : List PyData} {i : Nat} {d : PyData}, ds[i]? = some d → wid d ≤ widL ds
  | [], _, _, e => by simp at e
  | x :: r, 0, d, e => by simp at e; subst e; simp only [widL]; omega
  | x :: r, i + 1, d, e => by
    have h := widL_get (ds := r) (i := i) (d := d) (by simpa using e)
    simp only [widL]; omega
theorem widL_ints : ∀ ns : List Int, widL (ns.map PyData.int) = 0
  | [] => rfl
  | n :: r => by show max (wid (.int n)) (widL (r.map PyData.int)) = 0; rw [widL_ints r]; rfl
theorem depL_ints : ∀ ns : List Int, depL (ns.map PyData.int) = 0
  | [] => rfl
  | n :: r => by show max (dep (.int n)) (depL (r.map PyData.int)) = 0; rw [depL_ints r]; rfl
mutual
theorem Da.dp {K : PySem.W.Frag} {H : Hp} : ∀ (d : PyData) (v : V), Da H d v → Dp K H v d
  | .none, _, h => by simp only [Da] at h; subst h; exact .non
  | .bool b, _, h => by simp only [Da] at h; subst h; exact .bl b
  | .int i, _, h => by simp only [Da] at h; subst h; exact .int i
  | .str s, _, h => by simp only [Da] at h; subst h; exact .str s
  | .list ds, _, h => by
    simp only [Da] at h
    obtain ⟨a, xs, rfl, h1, h2⟩ := h
    exact .lst (SqL.of h1) (DaL.dp ds xs h2)
  | .tuple ds, _, h => by
    simp only [Da] at h
    obtain ⟨a, xs, rfl, h1, h2⟩ := h
    exact .tup (SqT.of h1) (DaL.dp ds xs h2)
  | .dict _, _, h => by simp [Da] at h
theorem DaL.dp {K : PySem.W.Frag} {H : Hp} : ∀ (ds : List PyData) (xs : List V), DaL H ds xs → DpAll K H xs ds
  | [], _, h => by simp only [DaL] at h; subst h; exact .nil
  | d :: ds, _, h => by
    simp only [DaL] at h
    obtain ⟨v, r, rfl, h1, h2⟩ := h
    exact .cons (Da.dp d v h1) (DaL.dp ds r h2)
end
/-! isinstance -/
def tyName : PyData → String
  | .none => "NoneType" | .bool _ => "bool" | .int _ => "int" | .str _ => "str" | .list _ => "list" | .tuple _ => "tuple" | .dict _ => "dict"
theorem Da.ty {K : PySem.W.Frag} {H : Hp} {d : PyData} {v : V} (h : Da H d v) : TyX K H v (.type (tyName d)) := by
  cases d with
  | none => simp only [Da] at h; subst h; exact .base .non
  | bool b => simp only [Da] at h; subst h; exact .base (.bl b)
  | int i => simp only [Da] at h; subst h; exact .base (.int i)
  | str s => simp only [Da] at h; subst h; exact .base (.str s)
  | list ds =>
    simp only [Da] at h
    obtain ⟨a, xs, rfl, h1, h2⟩ := h
    exact .base (.lst h1)
  | tuple ds =>
    simp only [Da] at h
    obtain ⟨a, xs, rfl, h1, h2⟩ := h
    exact .base (.tup h1)
  | dict ds => simp [Da] at h
theorem w_isi {K : PySem.W.Frag} {H : Hp} {Q : VK} {x : V} {T n : String} {b : Bool} (ty : TyX K H x (.type T)) (h : kitB T n = some b) (q : Q (.bl b) H) : rIsi K [x, .ty n] H Q := ⟨x, .ty n, .type T, .type n, b, rfl, .ty n, ty, kit_ty h, q⟩
theorem w_isiT2 {K : PySem.W.Frag} {H : Hp} {Q : VK} {x : V} {T n m : String} {tp : Addr} {b c : Bool} (ty : TyX K H x (.type T)) (ht : H tp = some (.tup [.ty n, .ty m])) (h : kitB T n = some b) (h2 : kitB T m = some c) (q : Q (.bl (b || c)) H) : rIsiT K [x, .ref tp] H Q :=
  ⟨x, tp, _, .type T, [.type n, .type m], b || c, rfl, ht, .cons (.ty n) (.cons (.ty m) .nil), ty, kitAny_cons (kit_ty h) (fun hb => by
    subst hb
    exact kitAny_cons (kit_ty h2) (fun hc => by subst hc; exact kitAny_nil) (fun hc => by subst hc; rfl)) (fun hb => by subst hb; rfl), q⟩
section
variable {K : PySem.W.Frag} {H : Hp} {Q : VK} {x : V} {T n m : String} {tp : Addr}
theorem w_isi1 (ty : TyX K H x (.type T)) (h : kitB T n = some true) (q : Q (.bl true) H) : rIsi K [x, .ty n] H Q := w_isi ty h q
theorem w_isi0 (ty : TyX K H x (.type T)) (h : kitB T n = some false) (q : Q (.bl false) H) : rIsi K [x, .ty n] H Q := w_isi ty h q
theorem w_isiT10 (ty : TyX K H x (.type T)) (ht : H tp = some (.tup [.ty n, .ty m])) (h : kitB T n = some true) (h2 : kitB T m = some false) (q : Q (.bl true) H) : rIsiT K [x, .ref tp] H Q := w_isiT2 ty ht h h2 q
theorem w_isiT01 (ty : TyX K H x (.type T)) (ht : H tp = some (.tup [.ty n, .ty m])) (h : kitB T n = some false) (h2 : kitB T m = some true) (q : Q (.bl true) H) : rIsiT K [x, .ref tp] H Q := w_isiT2 ty ht h h2 q
theorem w_isiT00 (ty : TyX K H x (.type T)) (ht : H tp = some (.tup [.ty n, .ty m])) (h : kitB T n = some false) (h2 : kitB T m = some false) (q : Q (.bl false) H) : rIsiT K [x, .ref tp] H Q := w_isiT2 ty ht h h2 q
end
/-! == of data that are the same -/
mutual
theorem canLay_ints : ∀ ns : List Int, PyData.canLayAll0 (ns.map PyData.int) = true
  | [] => rfl
  | n :: r => by show (PyData.canLay0 (.int n) && PyData.canLayAll0 (r.map PyData.int)) = true; rw [canLay_ints r]; rfl
end
theorem depth_ints : ∀ ns : List Int, PyData.depthAll (ns.map PyData.int) = 0
  | [] => rfl
  | n :: r => by show max (PyData.depth (.int n)) (PyData.depthAll (r.map PyData.int)) = 0; rw [depth_ints r]; rfl
theorem shp_ints (ns : List Int) : SeqAt.shaped (.list (ns.map PyData.int)) = true := by
  show (PyData.canLayAll0 (ns.map PyData.int) && decide (PyData.depthAll (ns.map PyData.int) + 1 ≤ 64)) = true
  rw [canLay_ints, depth_ints]; rfl
theorem w_neD {K : PySem.W.Frag} {H : Hp} {Q : VK} {x y : V} (d : PyData) (hx : Da H d x) (hy : Da H d y) (hs : SeqAt.shaped d = true) (q : Q (.bl false) H) : rNeD K x y H Q :=
  ⟨d, d, hx.dp, hy.dp, hs, hs, by rw [SeqAt.eqv_refl d (SeqAt.canLay_of_shaped hs)]; exact q⟩
theorem w_eqD {K : PySem.W.Frag} {H : Hp} {Q : VK} {x y : V} (d : PyData) (hx : Da H d x) (hy : Da H d y) (hs : SeqAt.shaped d = true) (q : Q (.bl true) H) : rEqD K x y H Q :=
  ⟨d, d, hx.dp, hy.dp, hs, hs, by rw [SeqAt.eqv_refl d (SeqAt.canLay_of_shaped hs)]; exact q⟩
/-! insert; a list unpacked -/
def rInsL : V → List V → Hp → VK → Prop := fun x vs H Q => ∃ (l : Addr) (xs : List V) (i : Int) (y : V), x = .ref l ∧ vs = [.int i, y] ∧ H l = some (.lst xs) ∧ xs.length < sizeLine ∧ 0 ≤ i ∧ i < 2 ^ 63 ∧
    Q .non (upd H l (.lst (xs.take i.toNat ++ [y] ++ xs.drop i.toNat)))
theorem mt_insertL {X : Cx} : MtR X "list.insert" rInsL := mt_insert
theorem w_ins {H : Hp} {Q : VK} {l : Addr} {xs : List V} {i : Int} {y : V} (h : H l = some (.lst xs)) (z : xs.length < sizeLine) (h0 : 0 ≤ i ∧ i < 2 ^ 63) (q : ∀ H1, Keep [l] H H1 → H1 l = some (.lst (xs.take i.toNat ++ [y] ++ xs.drop i.toNat)) → Q .non H1) :
    rInsL (.ref l) [.int i, y] H Q := ⟨l, xs, i, y, rfl, rfl, h, z, h0.1, h0.2, q _ (put_lst h) upd_same⟩
theorem w_unl {K : PySem.W.Frag} {σ : L2.St} {H : Hp} {a : Addr} {xs : List V} {n : Nat} {t : TGs} {P : L2.St → Hp → Prop} (h : SqL K H a xs) (e : xs.length = n) (q : t xs σ H P) : gUnl K n t (.ref a) σ H P := ⟨a, xs, rfl, h, e, q⟩
/-! walks that give pairs, texts -/
section
variable {K : PySem.W.Frag} {g : TG} {tb : TS} {tt : TT} {te : TE} {vs : List Nat} {Q : VK} {nx : L2.St → Hp → Prop} {rt : VK} {bk ct : L2.St → Hp → Prop} {σ : L2.St} {H : Hp} {a b : Addr} {xs ys : List V} {z : Str}
theorem lcZ {n : Nat} (hn : n = min xs.length ys.length) (hx : SqL K H a xs) (hy : SqL K H b ys) (Pv : Addr → Nat → Hp → Prop) (h0 : ∀ D H1, H D = none → Keep [] H H1 → H1 D = some (.lst []) → Pv D 0 H1) (hl : ∀ D i H, i ≤ n → Pv D i H → SqL K H a xs ∧ SqL K H b ys)
    (hs : ∀ D i x y T H' H'', H D = none → xs[i]? = some x → ys[i]? = some y → Pv D i H' → H' T = none → Keep [] H' H'' → H'' T = some (.tup [x, y]) → g (.ref T) (wipe σ vs) H'' fun σ2 H2 => wipe σ2 vs = wipe σ vs ∧ tt σ2 H2 fun b H3 => if b = true then te σ2 H3 fun y H4 => rApp D y H4 (Pv D (i + 1)) else Pv D (i + 1) H3)
    (hd : ∀ D H', H D = none → Pv D n H' → Q (.ref D) H') : kLcZ K g tt te vs σ [.ref a, .ref b] H Q :=
  ⟨a, b, xs, ys, rfl, hx, hy, fun D hD => lc_it (walk_zip hn) (Pv D) (h0 D _ hD (Keep.new hD) upd_same) (hl D) (fun i v H' H'' _ p y => by
    obtain ⟨T, x, z, rfl, nT, rfl, e1, e2⟩ := y
    exact hs D i x z T H' _ hD e1 e2 p nT (Keep.new nT) upd_same) (fun H' p => hd D H' hD p)⟩
theorem forZ {n : Nat} (hn : n = min xs.length ys.length) (hx : SqL K H a xs) (hy : SqL K H b ys) (Pv : Nat → L2.St → Hp → Prop) (h0 : Pv 0 σ H) (hl : ∀ i σ H, i ≤ n → Pv i σ H → SqL K H a xs ∧ SqL K H b ys)
    (hs : ∀ i x y T σ H' H'', xs[i]? = some x → ys[i]? = some y → Pv i σ H' → H' T = none → Keep [] H' H'' → H'' T = some (.tup [x, y]) → g (.ref T) σ H'' fun σ2 H2 => tb ⟨Pv (i + 1), rt, nx, Pv (i + 1)⟩ σ2 H2)
    (hd : ∀ σ H', Pv n σ H' → nx σ H') : kForZ K g tb ⟨nx, rt, bk, ct⟩ σ [.ref a, .ref b] H :=
  ⟨a, b, xs, ys, rfl, hx, hy, for_it (walk_zip hn) Pv h0 hl (fun i v σ H' H'' _ p y => by
    obtain ⟨T, x, z, rfl, nT, rfl, e1, e2⟩ := y
    exact hs i x z T σ H' _ e1 e2 p nT (Keep.new nT) upd_same) hd⟩
theorem forE (hx : SqL K H a xs) (Pv : Nat → L2.St → Hp → Prop) (h0 : Pv 0 σ H) (hl : ∀ i σ H, i ≤ xs.length → Pv i σ H → SqL K H a xs)
    (hs : ∀ (i : Nat) x T σ H' H'', xs[i]? = some x → Pv i σ H' → H' T = none → Keep [] H' H'' → H'' T = some (.tup [.int (i : Int), x]) → g (.ref T) σ H'' fun σ2 H2 => tb ⟨Pv (i + 1), rt, nx, Pv (i + 1)⟩ σ2 H2)
    (hd : ∀ σ H', Pv xs.length σ H' → nx σ H') : kForE K g tb ⟨nx, rt, bk, ct⟩ σ [.ref a] H :=
  ⟨a, xs, rfl, hx, for_it walk_enum Pv h0 hl (fun i v σ H' H'' _ p y => by
    obtain ⟨T, x, z, rfl, nT, rfl, e1, e2⟩ := y
    cases e1
    exact hs i z T σ H' _ e2 p nT (Keep.new nT) upd_same) hd⟩
theorem forS (Pv : Nat → L2.St → Hp → Prop) (h0 : Pv 0 σ H)
    (hs : ∀ (i : Nat) c σ H', z.cps[i]? = some c → Pv i σ H' → g (.str ⟨#[c]⟩) σ H' fun σ2 H2 => tb ⟨Pv (i + 1), rt, nx, Pv (i + 1)⟩ σ2 H2)
    (hd : ∀ σ H', Pv z.cps.size σ H' → nx σ H') : kForS g tb ⟨nx, rt, bk, ct⟩ σ (.str z) H :=
  ⟨z, rfl, for_it walk_str Pv h0 (fun _ _ _ _ _ => trivial) (fun i v σ H' H'' _ p y => by
    obtain ⟨rfl, c, e, rfl⟩ := y
    exact hs i c σ _ e p) hd⟩
theorem lcS (Pv : Addr → Nat → Hp → Prop) (h0 : ∀ D H1, H D = none → Keep [] H H1 → H1 D = some (.lst []) → Pv D 0 H1)
    (hs : ∀ D (i : Nat) c H', H D = none → z.cps[i]? = some c → Pv D i H' → g (.str ⟨#[c]⟩) (wipe σ vs) H' fun σ2 H2 => wipe σ2 vs = wipe σ vs ∧ tt σ2 H2 fun b H3 => if b = true then te σ2 H3 fun y H4 => rApp D y H4 (Pv D (i + 1)) else Pv D (i + 1) H3)
    (hd : ∀ D H', H D = none → Pv D z.cps.size H' → Q (.ref D) H') : kLcS g tt te vs σ (.str z) H Q :=
  ⟨z, rfl, fun D hD => lc_it walk_str (Pv D) (h0 D _ hD (Keep.new hD) upd_same) (fun _ _ _ _ => trivial) (fun i v H' H'' _ p y => by
    obtain ⟨rfl, c, e, rfl⟩ := y
    exact hs D i c _ hD e p) (fun H' p => hd D H' hD p)⟩
end
/-! texts as lists of codes -/
def tx (l : List Nat) : Str := ⟨l.toArray⟩
theorem tx_len (l : List Nat) : (tx l).length = l.length := by simp [tx, Str.length]
theorem tx_app (l m : List Nat) : tx l ++ tx m = tx (l ++ m) := by
  show Str.append (tx l) (tx m) = _
  simp [tx, Str.append]
theorem tx_cps (l : List Nat) : (tx l).cps.toList = l := by simp [tx]
theorem tx_inj {l m : List Nat} (h : tx l = tx m) : l = m := by
  have := congrArg (fun s : Str => s.cps.toList) h
  simpa [tx] using this
theorem tx_of (s : Str) : ∃ l, s = tx l := ⟨s.cps.toList, by cases s; simp [tx]⟩
theorem tx_eq {l m : List Nat} : decide (tx l = tx m) = decide (l = m) := by
  by_cases h : l = m
  · subst h; simp
  · rw [decide_eq_false h, decide_eq_false (fun q => h (tx_inj q))]
theorem joinL_nil : ∀ ys : List (List Nat), TL.joinL [] ys = ys.flatten
  | [] => rfl
  | [p] => by simp [TL.joinL]
  | p :: q :: r => by
    show p ++ ([] ++ TL.joinL [] (q :: r)) = _
    rw [joinL_nil (q :: r)]; simp
theorem tx_join (ys : List (List Nat)) : Txt.join (tx []) (ys.map tx) = tx ys.flatten := by
  have h := SX.join_S [] ys
  rw [joinL_nil] at h
  exact h
theorem cut_tx (l : List Nat) (s e : Nat) : cutS (tx l) (some (s : Int)) (some (e : Int)) = tx ((l.drop (min s l.length)).take (min e l.length - min s l.length)) := by
  unfold cutS
  rw [tx_cps, tx_len, HT.sIx_nat, HT.sIx_nat]; rfl
theorem cut_tx0 (l : List Nat) (e : Nat) : cutS (tx l) none (some (e : Int)) = tx (l.take e) := by
  unfold cutS
  rw [tx_cps, tx_len, HT.sIx_nat, HT.sIx_none, List.drop_zero, Nat.sub_zero, ← List.take_take, List.take_length]; rfl
theorem atI_tx {l : List Nat} {i : Nat} {c : Nat} (h : l[i]? = some c) : atI (tx l).cps.toList (i : Int) = some c := by rw [tx_cps]; exact atI_nat h
/-! the same rules, the frozen part named: so that a reading never hangs on a block's context -/
/-- str.join of a list of texts -/
def rJoin (K : PySem.W.Frag) : V → List V → Hp → VK → Prop := fun x xs H Q => ∃ a p, ∃ ys : List Str, x = .str a ∧ xs = [.ref p] ∧ (SqL K H p (ys.map V.str) ∨ SqT K H p (ys.map V.str)) ∧
    (ys.map (·.length)).sum + ys.length * a.length ≤ 16777216 ∧ Q (.str (Txt.join a ys)) H
theorem ix_listK {X : Cx} {K : PySem.W.Frag} (hK : X.K = K := by rfl) : IxR X (rIxL K) := by subst hK; exact ix_list
theorem ix_tupK {X : Cx} {K : PySem.W.Frag} (hK : X.K = K := by rfl) : IxR X (rIxT K) := by subst hK; exact ix_tup
theorem ix_ltK {X : Cx} {K : PySem.W.Frag} (hK : X.K = K := by rfl) : IxR X (rIxLT K) := by subst hK; exact ix_lt
theorem sl_listK {X : Cx} {K : PySem.W.Frag} (hK : X.K = K := by rfl) : SlR X (rSlL K) := by subst hK; exact sl_list
theorem sl_tupK {X : Cx} {K : PySem.W.Frag} (hK : X.K = K := by rfl) : SlR X (rSlT K) := by subst hK; exact sl_tup
theorem call_lenLK {X : Cx} {K : PySem.W.Frag} (hK : X.K = K := by rfl) : CallR X (.builtin "len") (rLen K) := by subst hK; exact call_lenL
theorem call_listLK {X : Cx} {K : PySem.W.Frag} (hK : X.K = K := by rfl) : CallR X (.type "list") (rListL K) := by subst hK; exact call_listL
theorem call_tupleLK {X : Cx} {K : PySem.W.Frag} (hK : X.K = K := by rfl) : CallR X (.type "tuple") (rTupL K) := by subst hK; exact call_tupleL
theorem op_in_seqK {X : Cx} {K : PySem.W.Frag} (hK : X.K = K := by rfl) : OpR X (compareOp .In) (rIn K false) := by subst hK; exact op_in_seq
theorem op_notIn_seqK {X : Cx} {K : PySem.W.Frag} (hK : X.K = K := by rfl) : OpR X (compareOp .NotIn) (rIn K true) := by subst hK; exact op_notIn_seq
theorem op_eqDK {X : Cx} {K : PySem.W.Frag} (hu : X.A.units + 64 < cLine) (hK : X.K = K := by rfl) : OpR X (compareOp .Eq) (rEqD K) := by subst hK; exact op_eqD hu
theorem op_neDK {X : Cx} {K : PySem.W.Frag} (hu : X.A.units + 64 < cLine) (hK : X.K = K := by rfl) : OpR X (compareOp .NotEq) (rNeD K) := by subst hK; exact op_neD hu
theorem op_catTK {X : Cx} {K : PySem.W.Frag} (hK : X.K = K := by rfl) : OpR X (binaryOp .Add) (rCatT K) := by subst hK; exact op_catT
theorem call_isiK {X : Cx} {K : PySem.W.Frag} (hK : X.K = K := by rfl) : CallR X (.builtin "isinstance") (rIsi K) := by subst hK; exact call_isi
theorem call_isiTK {X : Cx} {K : PySem.W.Frag} (hK : X.K = K := by rfl) : CallR X (.builtin "isinstance") (rIsiT K) := by subst hK; exact call_isiT
theorem cr_sumK {X : Cx} {K : PySem.W.Frag} (hc : X.calm = true) (hK : X.K = K := by rfl) : CallR X (.builtin "sum") (rSum K) := by subst hK; exact cr_sum hc
theorem cr_minK {X : Cx} {K : PySem.W.Frag} (hc : X.calm = true) (hK : X.K = K := by rfl) : CallR X (.builtin "min") (rMin K) := by subst hK; exact cr_min hc
theorem cr_maxK {X : Cx} {K : PySem.W.Frag} (hc : X.calm = true) (hK : X.K = K := by rfl) : CallR X (.builtin "max") (rMax K) := by subst hK; exact cr_max hc
theorem cr_allK {X : Cx} {K : PySem.W.Frag} (hc : X.calm = true) (hK : X.K = K := by rfl) : CallR X (.builtin "all") (rAll K) := by subst hK; exact cr_all hc
theorem get_listK {X : Cx} {K : PySem.W.Frag} (hK : X.K = K := by rfl) : PGet X (rIxL K) := by subst hK; exact get_list
theorem pi_listK {X : Cx} {K : PySem.W.Frag} {tg l : Expr} {tl : TE} (hl : PE X l tl) (hK : X.K = K := by rfl) : PI X tg l (iList K tl) := by subst hK; exact pi_list hl
theorem pi_tupK {X : Cx} {K : PySem.W.Frag} {tg l : Expr} {tl : TE} (hl : PE X l tl) (hK : X.K = K := by rfl) : PI X tg l (iTup K tl) := by subst hK; exact pi_tup hl
theorem pg_tupK {X : Cx} {K : PySem.W.Frag} {es : List Expr} {pos : Pos} {k : Nat} {t : TGs} {n : Nat} (hc : X.calm = true) (h : PGs X es t) (hn : (assignEach es X.env).length = n := by rfl) (hst : (assignEach es X.env).findIdx? (·.1) = none := by rfl) (hK : X.K = K := by rfl) : PG X (.Tuple es k pos) (gTup K n t) := by subst hK; exact pg_tup hc h hn hst
theorem pg_unlK {X : Cx} {K : PySem.W.Frag} {es : List Expr} {pos : Pos} {k : Nat} {t : TGs} {n : Nat} (hc : X.calm = true) (h : PGs X es t) (hn : (assignEach es X.env).length = n := by rfl) (hst : (assignEach es X.env).findIdx? (·.1) = none := by rfl) (hK : X.K = K := by rfl) : PG X (.Tuple es k pos) (gUnl K n t) := by subst hK; exact pg_unl hc h hn hst
theorem pi_zipK {X : Cx} {K : PySem.W.Frag} {e e2 : Expr} {ta : TA} {p pos tpos : Pos} {elts : List Expr} {kk : Nat} (hg : Gl X "zip") (hm : X.mg "zip" = none) (ha : PA X [e, e2] ta) (hs : starEach [e, e2] X.env = (false, eval e X.env) :: starEach [e2] X.env := by rfl) (hpl : (backTo pos (starEach [e2] X.env)).any (·.1) = false := by rfl) (hK : X.K = K := by rfl) : PI X (.Tuple elts kk tpos) (.Call (.Name "zip" p) [e, e2] [] pos) (iZip K ta) := by subst hK; exact pi_zip hg hm ha hs hpl
theorem pi_enumK {X : Cx} {K : PySem.W.Frag} {e : Expr} {ta : TA} {p pos tpos : Pos} {elts : List Expr} {kk : Nat} (hg : Gl X "enumerate") (hm : X.mg "enumerate" = none) (ha : PA X [e] ta) (hs : starEach [e] X.env = [(false, eval e X.env)] := by rfl) (hK : X.K = K := by rfl) : PI X (.Tuple elts kk tpos) (.Call (.Name "enumerate" p) [e] [] pos) (iEnum K ta) := by subst hK; exact pi_enum hg hm ha hs
theorem pe_fldK {X : Cx} {K : PySem.W.Frag} {e : Expr} {f : Str} {pos : Pos} {ta : TE} (he : PE X e ta) (hb : attributeBase e f X.env (eval e X.env) = eval e X.env) (hK : X.K = K := by rfl) : PE X (.Attribute e f pos) (tFld K ta f) := by subst hK; exact pe_fld he hb
theorem ps_fldK {X : Cx} {K : PySem.W.Frag} {o value : Expr} {f : Str} {pos pos' : Pos} {ta tv : TE} (ha : PE X o ta) (hv : PE X value tv) (hs : swapsWith value (some (.Attribute o f pos')) pos.line X.env = pure false) (hK : X.K = K := by rfl) : PS X (.Assign [.Attribute o f pos'] value pos) (sFld K ta tv f) := by subst hK; exact ps_fld ha hv hs
theorem ps_fldaugK {X : Cx} {K : PySem.W.Frag} {o value : Expr} {f : Str} {pos tpos : Pos} {ta tv : TE} {op : Operator} {rd : V → V → Hp → VK → Prop} (ha : PE X o ta) (hv : PE X value tv) (hop : InOp X op rd) (hK : X.K = K := by rfl) : PS X (.AugAssign (.Attribute o f tpos) op value pos) (sFldAug K ta tv rd f) := by subst hK; exact ps_fldaug ha hv hop
theorem pe_bm0K {X : Cx} {K : PySem.W.Frag} {o e : Expr} {es : List Expr} {to : TE} {t : TA} {name : Str} {apos cpos : Pos} {T id : String} {r : V → List V → Hp → VK → Prop} (pa : PlainAttrs T) (slot : Slot T name id) (hty : typeOf (.builtin id) = pure (.type "method_descriptor")) (hm : MtR X id r) (ho : PE X o to) (hbase : attributeBase o name X.env (eval o X.env) = eval o X.env := by rfl) (hline : (apos.endLine == cpos.line) = true := by rfl) (hK : X.K = K := by rfl) : PE X (.Call (.Attribute o name apos) [] [] cpos) (tBM0 K T r to) := by subst hK; exact pe_bm0 pa slot hty hm ho hbase hline
theorem pe_bmK {X : Cx} {K : PySem.W.Frag} {o e : Expr} {es : List Expr} {to : TE} {t : TA} {name : Str} {apos cpos : Pos} {T id : String} {r : V → List V → Hp → VK → Prop} (pa : PlainAttrs T) (slot : Slot T name id) (hty : typeOf (.builtin id) = pure (.type "method_descriptor")) (hm : MtR X id r) (ho : PE X o to) (ha : PA X (e :: es) t) (hbase : attributeBase o name X.env (eval o X.env) = eval o X.env := by rfl)
    (hfew : ((backTo cpos (starEach (e :: es) X.env)).all (fun x => !x.1) && (backToKw cpos (keywordEach [] X.env)).all (fun x => x.1.isSome)
      && decide ((e :: es).length + ([] : List Keyword).length + (if ([] : List Keyword).isEmpty then 0 else 1) < 30)) = true := by rfl)
    (hline : (apos.endLine == cpos.line) = true := by rfl) (hs : starEach (e :: es) X.env = (false, eval e X.env) :: starEach es X.env := by rfl) (hplain : (backTo cpos (starEach es X.env)).any (·.1) = false := by rfl) (hK : X.K = K := by rfl) : PE X (.Call (.Attribute o name apos) (e :: es) [] cpos) (tBM K T r to t) := by subst hK; exact pe_bm pa slot hty hm ho ha hbase hfew hline hs hplain
theorem pe_joinK {X : Cx} {K : PySem.W.Frag} {o e : Expr} {to te : TE} {apos pos : Pos} (ho : PE X o to) (he : PE X e te) (hs : starEach [e] X.env = [(false, eval e X.env)] := by rfl) (hbase : attributeBase o "join" X.env (eval o X.env) = eval o X.env := by rfl) (hline : (apos.endLine == pos.line) = true := by rfl) (hK : X.K = K := by rfl) : PE X (.Call (.Attribute o "join" apos) [e] [] pos) (tM1 (rJoin K) to te) := by subst hK; exact pe_join ho he hs hbase hline
def rStrR (x : V) (R : Prop) : Prop := (∃ a, x = .str a) ∧ R
theorem e_m1 {r : V → List V → Hp → VK → Prop} {to te : TE} {σ : L2.St} {H : Hp} {Q : VK} (h : to σ H fun x H1 => rStrR x (te σ H1 fun y H2 => r x [y] H2 Q)) : tM1 r to te σ H Q := h
theorem w_strR {a : Str} {R : Prop} (h : R) : rStrR (.str a) R := ⟨⟨a, rfl⟩, h⟩
end W

end
section
set_option maxHeartbeats 4000000
/-! W3: exceptions of the program's own classes -/
namespace W
open PySem PySem.Spec L2
theorem exm_self {K : PySem.W.Frag} {S : Addr} (h1 : PySem.W.subIn K (.ref S) (.type "BaseException") = some true) (h2 : PySem.W.isClsIn K S = true) (h3 : PySem.W.typeIn K (.ref S) = some (.type "type")) (h4 : PySem.W.subIn K (.ref S) (.ref S) = some true) :
    PySem.W.exmOne K (.ref S) (.ref S) = some true := by
  have e1 : (PySem.W.subIn K (.ref S) (.type "BaseException") == some true) = true := by rw [h1] <;> rfl
  have e2 : ((PySem.W.clsIn K S).isSome && PySem.W.typeIn K (.ref S) == some (.type "type")) = true := by
    have h2' : (PySem.W.clsIn K S).isSome = true := h2
    rw [h2', h3] <;> rfl
  show (if (PySem.W.subIn K (.ref S) (.type "BaseException") == some true) = true then (if ((PySem.W.clsIn K S).isSome && PySem.W.typeIn K (.ref S) == some (.type "type")) = true then PySem.W.subIn K (.ref S) (.ref S) else none) else none) = some true
  rw [if_pos e1, if_pos e2]
  exact h4
section
variable {X : Cx} {C c : Addr} {bmB : List Value} {B newId initId : String} {Wx Wout : WX} {K : PySem.W.Frag}
/-- raise C('..') -/
def tRaise (C : Addr) (Wx : WX) : TS := fun _ σ H => Wx (.ref C) none σ H
theorem ps_raise1 {x m : Str} {j : Nat} {p p2 pos pos2 : Pos} (hc : X.calm = true) (tk : Takes X Wx) (F : ExcBaseFacts B newId initId bmB) (q : PySem.W.excIn X.K C bmB newId = true) (gC : X.mg x = some (.ref C)) (kC : PySem.W.keepIn X.K (.ref C) = true)
    (r : Raises X (.ref C)) (hg : Gl X x) (hdb : (x == ("__debug__" : Str)) = false := by decide) : PS X (.Raise (some (.Call (.Name x p) [.Constant (.str m) j p2] [] pos)) none pos2) (tRaise C Wx) :=
  ps_raise hc tk (pmk_own F q gC kC r hg hdb)
/-- try: .. except c: .. -/
def tTry (K : PySem.W.Frag) (c : Value) (tb : WX → TS) (ts : Addr → Value → Option Addr → TS) (Wout : WX) : TS := fun D σ H => tb (wOnly K c ts Wout D) D σ H
theorem ps_try1 {x : Str} {c : Value} {body suite : List Stmt} {b₀ : Stmt} {np pos pos' : Pos} {tb : WX → TS} {ts : Addr → Value → Option Addr → TS} (hs : X.stack = X.env :: X.outer) (hf : X.env.frame = some X.env.locals) (hc : Names X x c) (tk : Takes X Wout)
    (hb : ∀ (W : WX) (pn : List (Addr × Obj)) (xe : Value → Shared → Prop), Takes (X.tr pn xe) W → PassesOwn (model X.prog X.w) X.A X.env xe → PSs (X.tr pn xe) body (tb W))
    (hsu : ∀ (a : Addr) (oe : Obj) (cls : Value) (d : Option Addr) (pn : List (Addr × Obj)), Zc cls d oe → (∃ vs, oe.data = .fields vs) → PSs (X.suite a ((a, oe) :: pn)) (b₀ :: suite) (ts a cls d)) (hK : X.K = K := by rfl) :
    PS X (.Try body [.ExceptHandler (some (.Name x np)) none (b₀ :: suite) pos'] [] [] pos) (tTry K c tb ts Wout) := by
  subst hK; exact ps_try_only hs hf hc tk hb hsu
/-- o.m(..), its way out read at the slots -/
def tMethS (C : Addr) (m : Str) (sp : Sp) (E : St → XK) (ta : TE) (t : TA) : TE := fun σ H Q => ta σ H fun x H1 => ∃ a dx fs, x = .ref a ∧ H1 a = some (.ins C dx fs) ∧ fs.lookup m = none ∧
  t σ H1 fun vs H2 => sp (x :: vs) H2 Q (E σ)
theorem pe_meth0S {CX : CXT} {k : Nat} {f : Addr} {fd : FuncData} {ps : List Str} {sp : Sp} {E : St → XK} {m : Str} {pos apos : Pos} {o : Expr} {ta : TE} {pl : Sem Bool} (he : PE X o ta) (c : Cls X.K C) (hm : Meth X.K C m f) (F : FnOk X.prog X.w X.K X.mg X.base CX k f fd ps sp) (hr : Room k X.A) (hb : Binds X.K fd ps [])
    (hx : ∀ σ, PassesAt CX X σ (E σ))
    (ht : eval (.Call (.Attribute o m apos) [] [] pos) X.env = (do
      let ov ← eval o X.env
      standAt apos.atName
      let (f, first) ← holding [ov] (getMethod ov m pl)
      callWith pos f first (backTo pos (starEach [] X.env)) (backToKw pos (keywordEach [] X.env))) := by rfl) :
    PE X (.Call (.Attribute o m apos) [] [] pos) (tMethS C m sp E ta tNil) := by
  refine ⟨fun pins s σ H Q I h => ?_⟩
  refine PySem.W.methodCall_KW (pl := pl) (thn (he.run pins s σ H _ I h) fun u s1 ⟨x, H1, I1, rx, a, dx, fs, ex, ea, l, q⟩ => ?_) ht
  subst ex
  obtain rfl : u = Value.ref a := rx
  refine getmeth_ok I1 ea c hm l ?_
  exact PySem.W.callWith_K0 (first := [.ref a]) I1.kIn hm.kp (run_fnS (us := [.ref a]) (vs := [.ref a]) F hr hb (hx σ) I1 (.cons rfl .nil) q)
end
section
variable {σ : L2.St} {H : Hp} {Q : VK} {te ta : TE} {tr : TA} {K : PySem.W.Frag} {nx : L2.St → Hp → Prop} {rt : VK} {bk ct : L2.St → Hp → Prop}
theorem s_raise {C : Addr} {Wx : WX} {D : Ends} (h : Wx (.ref C) none σ H) : tRaise C Wx D σ H := h
theorem s_try {c : Value} {tb : WX → TS} {ts : Addr → Value → Option Addr → TS} {Wout : WX} {D : Ends} (h : tb (wOnly K c ts Wout D) D σ H) : tTry K c tb ts Wout D σ H := h
theorem e_methS {C : Addr} {m : Str} {sp : Sp} {E : L2.St → XK} (h : ta σ H fun x H1 => rMeth C m x H1 (tr σ H1 fun vs H2 => sp (x :: vs) H2 Q (E σ))) : tMethS C m sp E ta tr σ H Q := h
theorem w_only {c : Value} {ts : Addr → Value → Option Addr → TS} {Wout : WX} {D : Ends} {cls : Value} {d : Option Addr} (h : PySem.W.exmOne K cls c = some true) (q : ∀ a, H a = none → ts a cls d D σ H) : wOnly K c ts Wout D cls d σ H := ⟨true, h, fun _ => q, fun z => Bool.noConfusion z⟩
end
/-! o.f op= e -/
section
variable {σ : L2.St} {H : Hp} {ta tb : TE} {K : PySem.W.Frag} {nx : L2.St → Hp → Prop} {rt : VK} {bk ct : L2.St → Hp → Prop} {f : Str} {rd : V → V → Hp → VK → Prop}
def rPF (a C : Addr) (f : Str) (z : V) (H : Hp) (R : Hp → Prop) : Prop := ∃ dx fs, H a = some (.ins C dx fs) ∧ fs.length < 1000 ∧ R (upd H a (.ins C dx (putF f z fs)))
def rFA (K : PySem.W.Frag) (f : Str) (tb : TE) (rd : V → V → Hp → VK → Prop) (σ : L2.St) (x : V) (H : Hp) (R : Hp → Prop) : Prop := ∃ a C dx fs v, x = .ref a ∧ H a = some (.ins C dx fs) ∧ Cls K C ∧ NoAttr K C f ∧ fs.lookup f = some v ∧
  tb σ H fun y H2 => rd v y H2 fun z H3 => rPF a C f z H3 R
theorem s_fa (h : ta σ H fun x H1 => rFA K f tb rd σ x H1 fun H3 => nx σ H3) : sFldAug K ta tb rd f ⟨nx, rt, bk, ct⟩ σ H := h
theorem w_fa {a C dx : Addr} {fs : List (Str × V)} {v : V} {R : Hp → Prop} (h : H a = some (.ins C dx fs)) (c : Cls K C) (n : NoAttr K C f) (l : fs.lookup f = some v) (q : tb σ H fun y H2 => rd v y H2 fun z H3 => rPF a C f z H3 R) : rFA K f tb rd σ (.ref a) H R := ⟨a, C, dx, fs, v, rfl, h, c, n, l, q⟩
theorem w_pf {a C dx : Addr} {fs : List (Str × V)} {z : V} {R : Hp → Prop} (h : H a = some (.ins C dx fs)) (l : fs.length < 1000) (q : ∀ H1, Keep [a] H H1 → H1 a = some (.ins C dx (putF f z fs)) → R H1) : rPF a C f z H R := ⟨dx, fs, h, l, q _ (put_ins h) upd_same⟩
end
section
variable {H : Hp} {Q : VK} {i j : Int}
theorem w_rAdd (q : Q (.int (i + j)) H) : rAdd (.int i) (.int j) H Q := ⟨i, j, rfl, rfl, q⟩
theorem w_rSub (q : Q (.int (i - j)) H) : rSub (.int i) (.int j) H Q := ⟨i, j, rfl, rfl, q⟩
end
theorem carry0 {H H' : Hp} {a : Addr} {o : HO} (k : Keep [] H H') (h : H a = some o) : H' a = some o := k.get h (by simp)
end W

end
section
set_option maxHeartbeats 4000000
/-! W4: a list comprehension whose item may raise -/
namespace W
open PySem PySem.Spec L2 PySem.HandSPX
theorem note_cong {x : Value} {ce env : Env} (h : ce.frame = env.frame) : noteFrame x ce = noteFrame x env := by
  unfold noteFrame frameOf
  rw [h]
section
variable {M : Model} {A : Around} {E : Value → Shared → Prop} {s : Shared} {Z : Obj → Prop} {base : Heap} {env : Env} {outer : List Env} {L C e : Addr}
/-- noted by this frame, whatever frame noted it last -/
theorem note_held {Q : Unit → Shared → Prop} (hZ : Steady Z) (hfr : A.frames = some (env :: outer)) (hf : env.frame = some L) (hne : C ≠ L) (hfl : HeldZ base (env :: outer) e Z C s.heap)
    (hQ : ∀ h', HeldZ base (env :: outer) e Z L h' → s.heap.UpToSlots h' → Q () { s with heap := h' }) : wpAny M A (noteFrame (.ref e) env) Q E s := by
  obtain ⟨hkb, hen, hl, oe, vs, T, oT, ts, he, hz, hd, h1, hnT, hTe, hT, hdT, h3⟩ := hfl
  unfold noteFrame
  simp only [hf]
  refine wpAny_bind (wpAny_field he hd h1 ?_)
  rw [if_pos (show (Value.ref T != Value.none) = true from by simp)]
  refine wpAny_bind (wpAny_field hT hdT h3 ?_)
  rw [if_neg (show ¬ ((rawInt C == rawInt L) = true) from fun h => hne (by simp [rawInt] at h; exact Int.ofNat.inj h))]
  refine wpAny_bind (wpAny_setField hT hdT (Array.getElem?_eq_some_iff.mp h3).1 ?_)
  have other : ∀ b, b ≠ T → (s.heap.update T (Obj.mapFields (·.setIfInBounds 3 Value.none))).get? b = s.heap.get? b := fun b hb => Heap.get?_update_other _ _ (Ne.symm hb)
  have noRecord : ∀ b o, s.heap.get? b = some o → (∀ vs, o.data ≠ .fields vs) → b ≠ T := fun b o hb hnf q => by
    rw [q, hT] at hb; injection hb with hb; subst hb; exact hnf ts hdT
  refine wpAny_entryZ hZ hfr (hl.of_keeps fun b o hb hnf => ⟨o, (other b (noRecord b o hb hnf)).trans hb, rfl⟩) hf ((other e (Ne.symm hTe)).trans he)
    (fun b o hbo => (other b fun q => by rw [q, hnT] at hbo; cases hbo).trans (hkb b o hbo)) hen hd (Array.getElem?_eq_some_iff.mp h1).1 hz fun h' hN => ?_
  obtain ⟨x1, x2, x3, x4⟩ := hN
  exact hQ h' ⟨x1, hen, x2, x3⟩ fun b o hb hnf => x4 b o ((other b (noRecord b o hb hnf)).trans hb) hnf
theorem note_sky {Q : Unit → Shared → Prop} (hZ : Steady Z) (hfr : A.frames = some (env :: outer)) (hf : env.frame = some L) (x : Sky base (env :: outer) e Z C s.heap)
    (hQ : ∀ h', HeldZ base (env :: outer) e Z L h' → s.heap.UpToSlots h' → Q () { s with heap := h' }) : wpAny M A (noteFrame (.ref e) env) Q E s := by
  rcases x with ⟨hB, hn, hl, oe, vs, he, hz, hd, h1⟩ | fl | hh
  · exact look_newZ hZ hfr hl hf he hB hn hd h1 hz hQ
  · exact looks_onZ hZ hfr hf fl hQ
  · by_cases h : C = L
    · subst h
      exact againZ hf hh.2.2.2 (hQ s.heap hh (Heap.UpToSlots.refl _))
    · exact note_held hZ hfr hf h hh hQ
end
/-- the block's own names let go: what is told of the exception stays -/
theorem held_but {B B' h h' : Heap} {l : List Env} {e L C : Addr} {Z : Obj → Prop} (hh : HeldZ B l e Z L h) (bC : ∃ o, B.get? C = some o) (sb : Heap.SameBut C h h') (h1 : ∀ b, b ≠ C → B'.get? b = B.get? b) (h2 : B'.get? C = none) : HeldZ B' l e Z L h' := by
  obtain ⟨hkb, hen, hl, oe, vs, T, oT, ts, he, hz, hd, h3, hnT, hTe, hT, hdT, h4⟩ := hh
  obtain ⟨oC, bC⟩ := bC
  have ne : ∀ {b : Addr}, B.get? b = none → b ≠ C := fun hb z => by rw [z, bC] at hb; cases hb
  refine ⟨fun b o hb => ?_, ?_, ?_, oe, vs, T, oT, ts, ?_, hz, hd, h3, ?_, hTe, ?_, hdT, h4⟩
  · have hb2 : b ≠ C := fun z => by rw [z, h2] at hb; cases hb
    rw [h1 b hb2] at hb
    rw [sb.2 b hb2]; exact hkb b o hb
  · rw [h1 e (ne hen)]; exact hen
  · clear he hd h3 hT hdT h4
    induction l with
    | nil => trivial
    | cons ev rest ih =>
      obtain ⟨hk, ⟨Lf, o, hf, hn, ho, hdf⟩, hr⟩ := hl
      exact ⟨hk, ⟨Lf, o, hf, by rw [h1 Lf (ne hn)]; exact hn, by rw [sb.2 Lf (ne hn)]; exact ho, hdf⟩, ih hr⟩
  · rw [sb.2 e (ne hen)]; exact he
  · rw [h1 T (ne hnT)]; exact hnT
  · rw [sb.2 T (ne hnT)]; exact hT
/-- what stands behind a block's run, an exception told with the block's own frame -/
def compX (M : Model) (A : Around) (E : Value → Shared → Prop) (Q : Value → Shared → Prop) (acc : Value) (ce : Env) (r : Result) (s' : Shared) : Prop :=
  match r with
  | .ok _ => ∃ m, s'.heap.Ns ce.locals m ∧ ∀ h', Heap.SameBut ce.locals s'.heap h' → Q acc { s' with heap := h' }
  | .error x => ∃ m, s'.heap.Ns ce.locals m ∧ ∀ h', Heap.SameBut ce.locals s'.heap h' → wpAny M A (passOn "comprehension.variables-let-go" x ce : Sem Value) (fun _ _ => False) E { s' with heap := h' }
theorem comp_free {M : Model} {A : Around} {E : Value → Shared → Prop} {s : Shared} {env : Env} {e : Expr} {scope : Scope} {pos : Pos} {newAcc first : Sem Value} {g : Comprehension} {gs : List Comprehension} {cl : List (Str × Addr)}
    {Q : Value → Shared → Prop} (hcl : clausesOf e = g :: gs) (hs : ∀ x, foldedSetIterable g.iter env x = pure x) (hclos : closureFor scope env = pure cl)
    (hkind : scope.kind = .function) (hnames : ∀ x ∈ scope.names, x.2 = .local → scope.names.lookup x.1 = some .local)
    (h : wpAny M A first (fun x s₁ => wpAny M A (pyIter x) (fun it s₂ => wpAny M A newAcc (fun acc s₃ =>
      wpAny M A (newFunctionEnv scope env.globals cl [] env.qual none .none (some env)) (fun cenv s₄ =>
        codeAny M A (.compStart e 0 it acc { cenv with scope := relabel scope env }) (compX M A E Q acc { cenv with scope := relabel scope env }) s₄) E s₃) E s₂) E s₁) E s) :
    wpAny M A (comprehension e scope env pos newAcc false first none) Q E s := by
  unfold comprehension
  rw [hclos, hcl]
  refine wpAny_bind (wpAny_mono h (fun x s₁ h₁ => wpAny_bind (wpAny_standAt (wpAny_bind (wpAny_of_eq (hs x) (wpAny_bind (wpAny_holding (wpAny_mono h₁ (fun it s₂ h₂ =>
    wpAny_standIf (wpAny_bind (wpAny_mono h₂ (fun acc s₃ h₃ => wpAny_bind (wpAny_pure (wpAny_bind (wpAny_mono h₃ (fun cenv s₄ h₄ => ?_) fun _ _ h' => h')))) fun _ _ h' => h')))
      fun _ _ h' => h'))))))) fun _ _ h' => h')
  dsimp only
  have hv : ∀ x ∈ (scope.names.filter fun x => (x.2 == .local || x.2 == .cell) && x.1 != (".0" : Str)).reverse, x.2 = .local →
      Env.kindOf { cenv with scope := relabel scope env } x.1 = some .local := fun x hx hl => lookup_relabel_local (hnames x (List.mem_filter.mp (List.mem_reverse.mp hx)).1 hl)
  refine wpAny_holding (wpAny_bind (wpAny_attempt (wpAny_holding (wpAny_run (codeAny_mono h₄ fun r s' hr => ?_)))))
  cases r with
  | ok f =>
    obtain ⟨m, hn, hr⟩ := hr
    exact wpAny_bind (wpAny_holding (wpAny_comp_letGo (cenv := { cenv with scope := relabel scope env }) hkind _ s' m hv hn fun h' m' _ hs' => wpAny_pure (hr h' hs')))
  | error x =>
    obtain ⟨m, hn, hr⟩ := hr
    exact wpAny_bind (wpAny_holding (wpAny_comp_letGo (cenv := { cenv with scope := relabel scope env }) hkind _ s' m hv hn fun h' m' _ hs' => wpAny_mono (hr h' hs') (fun _ _ f => f.elim) fun _ _ y => y))
/-- an exception of the block's item goes on from the def -/
theorem comp_takes {X : Cx} {E : XK} {pins : List (Addr × Obj)} {σ : L2.St} {H3 : Hp} {s3 : Shared} {scope : Scope} {ce : Env} {fp : List Addr} {Q : Value → Shared → Prop} {D : Addr}
    (hs : X.stack = X.env :: X.outer) (hf : X.env.frame = some X.env.locals) (tk : Takes X (fun cls d _ H => E cls d H)) (I3 : Inv X pins σ H3 s3) (hce : ce.frame = X.env.frame) (hC : ce.locals = s3.heap.objs.size)
    (hfp : ∀ b ∈ fp, (b ∈ X.ex ∨ X.s_0.heap.objs.size ≤ b) ∧ b ≠ X.env.locals ∧ (∀ x c, X.env.cells.lookup x = some c → c ≠ b) ∧ ∀ p ∈ X.pn ++ pins, p.1 ≠ b) :
    Takes ((X.blk s3 H3 scope ce fp).wish (notedBy (model X.prog X.w) X.A ce fun x s' => compX (model X.prog X.w) X.A X.xe Q (.ref D) ce (.error x) s')) (fun cls d _ H => E cls d H) := by
  rintro u s' ⟨a, B, sI, pins', σ', H', cls, d, rfl, I', nb, up, sky, na, os, ag, w⟩
  have hfr : X.A.frames = some (X.env :: X.outer) := by rw [I3.ok.frames, hs]
  have sky1 : Sky B X.stack a (Zc cls d) ce.locals s'.heap := sky
  rw [hs] at sky1
  show wpAny (model X.prog X.w) X.A (noteFrame (.ref a) ce) _ _ s'
  rw [note_cong hce]
  refine note_sky Zc.steady hfr hf sky1 (fun h1 hh up1 => ?_)
  -- the block's own names stand at C
  have I7 : Inv X pins σ H' sI := I3.call' (ch := fp) I'.os I'.base I'.hok I'.bare hfp
  obtain ⟨m, hn, _⟩ := I'.loc
  have hn : sI.heap.Ns ce.locals m := hn
  have nC : H' ce.locals = none := I'.free
  have nCf : ce.locals ∉ frs X.stack := fun hm => by
    rw [hC] at hm
    rcases List.mem_cons.mp (I3.stkSub _ hm) with z | z
    · have := I3.lt
      rw [← z] at this
      exact absurd this (Nat.lt_irrefl _)
    · exact I3.nofs (Nat.le_refl _) z
  obtain ⟨oC, esC, epC, hoC, rC⟩ := hn
  have bC := nb _ _ hoC nCf
  have hnC : h1.Ns ce.locals m := ⟨oC, esC, epC, hh.1 _ _ bC, rC⟩
  refine ⟨m, hnC, fun h2 sb => ?_⟩
  obtain ⟨B', b1, b2⟩ := restrict B fun b => decide (b ≠ ce.locals)
  obtain ⟨G, g1, g2⟩ := restrict sI.heap fun b => decide (b ≠ ce.locals)
  have hh2 := held_but hh ⟨_, bC⟩ sb (fun b hb => b1 b (by simp [hb])) (b2 _ (by simp))
  have hh2' := hh2
  obtain ⟨k1, k2, k3, oe, vs, T, oT, ts, he, hz, hd, h3, hnT, hTe, hT, hdT, h4⟩ := hh2'
  unfold passOn
  refine wpAny_bind (wpAny_field he hd h3 ?_)
  rw [if_neg (show ¬ ((Value.ref T == Value.none) = true) from by simp)]
  rw [hce, hf]
  refine wpAny_bind (setFlight_onZ hh2 fun h5 hh5 up5 => wpAny_throw ?_)
  have I9 : Inv X pins σ H' { sI with heap := G } := I7.turned (it := ce.locals) (t' := sI.toks) (fun b o hb e => by rw [g1 b (by simp [hb])]; exact e) nC (by rw [hC]; exact Nat.ne_of_gt I3.lt) (.inr (by rw [hC]; exact I3.sz))
    (fun x c e => (I3.fpOk (Nat.le_of_eq hC.symm) nC).2.2.2.2.1 x c e) (fun p hp => (I3.fpOk (Nat.le_of_eq hC.symm) nC).2.2.2.2.2 p hp)
  have og : ∀ b o, G.get? b = some o → b ≠ ce.locals ∧ sI.heap.get? b = some o := fun b o e => by
    by_cases hb : b = ce.locals
    · rw [g2 b (by simp [hb])] at e; cases e
    · rw [g1 b (by simp [hb])] at e; exact ⟨hb, e⟩
  refine tk _ _ ⟨a, B', { sI with heap := G }, pins, σ, H', cls, d, rfl, I9, fun b o e hb => ?_, fun b o e hnf => ?_, ?_, na, os, ag, w⟩
  · obtain ⟨z1, z2⟩ := og b o e
    rw [b1 b (by simp [z1])]
    exact nb b o z2 hb
  · obtain ⟨z1, z2⟩ := og b o e
    obtain ⟨sl, q⟩ := (up.trans up1) b o z2 hnf
    have q2 : h2.get? b = some { o with slots := sl } := by rw [sb.2 b z1]; exact q
    obtain ⟨sl2, q3⟩ := up5 b _ q2 hnf
    exact ⟨sl2, q3⟩
  · rw [hs]
    exact .inr (.inr hh5)
/-- [elt for target in iter if ..], elt may raise: pe_lc with another wish for the item -/
theorem pe_lcX {X : Cx} {E : XK} {elt tg iter : Expr} {ifs : List Expr} {scope : Scope} {own : List (Str × Nat)} {pos : Pos} {wi : TI} {g : TG} {tt : TT} {te : TE} (hst : X.stack = X.env :: X.outer) (hfm : X.env.frame = some X.env.locals) (tk : Takes X (fun cls d _ H => E cls d H))
    (hc : X.calm = true) (hN : X.N.Nodup) (hi : PI X tg iter wi) (ok : BlkOk X.N X.env.scope scope own)
    (hg : ∀ (s : Shared) (H : Hp) (C : Addr) (cl : List (Str × Addr)) (fp : List Addr), PG (X.blk s H scope (compEnvC scope cl C X.env) fp) tg g) (ht : ∀ (s : Shared) (H : Hp) (C : Addr) (cl : List (Str × Addr)) (fp : List Addr), PTs (X.blk s H scope (compEnvC scope cl C X.env) fp) ifs tt)
    (he : ∀ (s : Shared) (H : Hp) (C : Addr) (cl : List (Str × Addr)) (fp : List Addr) (xe : Value → Shared → Prop), Takes ((X.blk s H scope (compEnvC scope cl C X.env) fp).wish xe) (fun cls d _ H => E cls d H) → PE ((X.blk s H scope (compEnvC scope cl C X.env) fp).wish xe) elt te)
    (hs : ∀ x, foldedSetIterable iter X.env x = pure x := by intro _; rfl) :
    PE X (.ListComp elt [⟨tg, iter, ifs, 0⟩] scope pos) (tLc wi g tt te (own.map (·.2))) := by
  refine ⟨fun pins s σ H Q I h => ?_⟩
  rw [eval_ListComp]
  have hfree : ∀ y ∈ scope.names, y.2 = .free → ∃ c, X.env.cells.lookup y.1 = some c := fun y hy e => by
    rcases ok.free y hy e with k | k
    · exact I.ok.has _ (.inl k)
    · exact I.ok.has _ (.inr k)
  refine comp_free rfl hs (closure_ok hfree) ok.kind (fun y hy e => by rw [ok.uniq y hy, e])
    (thn (hi.run pins s σ H _ I h) fun xv s1 hx => thn hx fun itv s2 h2 => ?_)
  obtain ⟨it, fp, tn, J, H2, e, I2, T, st2, f2, q⟩ := h2
  subst e
  refine wpAny_newObj_type (newEnv_comp ?_) (by show 0 ≤ sizeLine; decide)
  generalize hD : s2.heap.objs.size = D
  have hDn : H2 D = none := I2.hok.fresh (Nat.le_of_eq hD)
  obtain ⟨W, ⟨m0, w0⟩, turn⟩ := q D hDn
  generalize hs3 : ({ s2 with heap := s2.heap.push { cls := .type "list", data := .seq ([] : List Value).toArray } } : Shared) = s3
  have I3 : Inv X pins σ (upd H2 D (.lst [])) s3 := by
    rw [← hs3]
    refine I2.laid (t' := s2.toks) (fun b o e => Heap.get?_push_of_some _ e) (Nat.le_of_eq hD) ⟨Nat.zero_le _, [], 0, .nil, ?_⟩
    rw [← hD]
    exact Heap.get?_push_size _ rfl
  have h3 : s3.heap = s2.heap.push { cls := .type "list", data := .seq ([] : List Value).toArray } := by rw [← hs3]
  have f3 : ∀ b ∈ fp, FpOk X pins (upd H2 D (.lst [])) b ∧ b < s3.heap.objs.size := fun b hb => by
    obtain ⟨o, e, _⟩ := T.obj _ _ st2 b hb
    have hlt := Heap.lt_size e
    refine ⟨⟨?_, (f2 b hb).2⟩, by rw [h3, Heap.size_push]; exact Nat.lt_succ_of_lt hlt⟩
    rw [upd_ne (by rw [← hD]; exact Nat.ne_of_lt hlt)]
    exact (f2 b hb).1
  have st3 : tn 0 s3.heap := T.keep _ _ _ st2 fun b _ o e => by rw [h3]; exact Heap.get?_push_of_some _ e
  have I4 := block_start I3 ok hN f3
  generalize hcl : cellsFrom (s3.heap.objs.size + 1) scope.names (cloFrom X.env.cells scope.names []) = cl at I4
  have pg := hg s3 (upd H2 D (.lst [])) s3.heap.objs.size cl fp
  have pt := ht s3 (upd H2 D (.lst [])) s3.heap.objs.size cl fp
  have pe := he s3 (upd H2 D (.lst [])) s3.heap.objs.size cl fp
  have hch : ∀ b ∈ fp, (b ∈ X.ex ∨ X.s_0.heap.objs.size ≤ b) ∧ b ≠ X.env.locals ∧ (∀ x c, X.env.cells.lookup x = some c → c ≠ b) ∧ ∀ p ∈ X.pn ++ pins, p.1 ≠ b := fun b hb => ⟨(f3 b hb).1.2.2.2.1, (f3 b hb).1.2.1, (f3 b hb).1.2.2.2.2.1, (f3 b hb).1.2.2.2.2.2⟩
  show codeAny _ _ (.compStart (.ListComp elt [⟨tg, iter, ifs, 0⟩] scope pos) 0 (.ref it) (.ref D) (compEnvC scope cl s3.heap.objs.size X.env)) (compX (model X.prog X.w) X.A X.xe (EP X pins σ Q) (.ref D) (compEnvC scope cl s3.heap.objs.size X.env)) { s3 with heap := pushCells (s3.heap.push { cls := .type "dict", data := .dict #[] }) scope.names }
  have nfp : ∀ b ∈ fp, (upd H2 D (.lst [])) b = none := fun b hb => (f3 b hb).1.1
  have cF : (compEnvC scope cl s3.heap.objs.size X.env).frame = X.env.frame := rfl
  have cL : (compEnvC scope cl s3.heap.objs.size X.env).locals = s3.heap.objs.size := rfl
  generalize compEnvC scope cl s3.heap.objs.size X.env = ce at I4 pg pt pe cF cL ⊢
  generalize hH3 : upd H2 D (.lst []) = H3 at I3 I4 pg pt pe w0 nfp f3
  generalize hs4 : ({ s3 with heap := pushCells (s3.heap.push { cls := .type "dict", data := .dict #[] }) scope.names } : Shared) = s4 at I4 ⊢
  have st4 : tn 0 s4.heap := T.keep _ _ _ st3 fun b _ o e => by rw [← hs4]; exact pushCells_keeps _ _ _ _ (Heap.get?_push_of_some _ e)
  have stat : ∀ {σ' : L2.St} {H' : Hp} {s' : Shared}, Inv (X.blk s3 H3 scope ce fp) [] σ' H' s' → (∀ b ∈ fp, H' b = none) → ∀ b ∈ fp, FpOk (X.blk s3 H3 scope ce fp) [] H' b := fun {σ' H' s'} I' hn b hb =>
    ⟨hn b hb, (I'.ok.exf b hb).1, I'.ok.exfs b hb, .inl hb, fun x c e => (I'.ok.exf b hb).2 x c e, fun p hp => absurd (show p ∈ ([] : List (Addr × Obj)) ++ [] from hp) (by simp)⟩
  have pe2 := pe _ (comp_takes (Q := EP X pins σ Q) (D := D) (scope := scope) hst hfm tk I3 cF cL hch)
  have loop : codeAny (model X.prog X.w) X.A (.compLoop (.ListComp elt [⟨tg, iter, ifs, 0⟩] scope pos) 0 (.ref it) (.ref D) ce) (compX (model X.prog X.w) X.A X.xe (EP X pins σ Q) (.ref D) ce) s4 := by
    refine compLoop_any (fun n s' => ∃ i H', Inv (X.blk s3 H3 scope ce fp) [] (wipe σ (own.map (·.2))) H' s' ∧ tn i s'.heap ∧ (∀ b ∈ fp, H' b = none) ∧ W i n H') ?_ m0 ⟨0, H3, I4, st4, nfp, w0⟩
    rintro n s5 ⟨i, H5, I5, st5, n5, w5⟩
    rcases turn i n H5 w5 with ⟨stop, qq⟩ | ⟨go, Nx, hNx, step⟩
    · have td := T.done (X.blk s3 H3 scope ce fp) rfl rfl rfl hc i [] s5 _ H5 (fun _ _ => False) I5 (stat I5 n5) st5 stop
      refine thnF td fun r s6 ⟨hr, I6⟩ => ?_
      subst hr
      have I7 : Inv X pins σ H5 s6 := I3.call' (ch := fp) I6.os I6.base I6.hok I6.bare hch
      have nC : H5 s3.heap.objs.size = none := by
        have z : H5 ce.locals = none := I6.free
        rw [cL] at z
        exact z
      obtain ⟨m, hn, _⟩ := I6.loc
      have hn : s6.heap.Ns ce.locals m := hn
      obtain ⟨f0, f1, f2, f3, f4, f5⟩ := I3.fpOk (H' := H5) (Nat.le_refl _) nC
      refine ⟨m, hn, fun h'' sb => ?_⟩
      rw [cL] at sb
      exact ⟨.ref D, H5, I7.turned (t' := s6.toks) (fun b o hb e => (sb.2 b hb).trans e) f0 f1 f3 f4 f5, rfl, qq⟩
    · have ti := T.item (X.blk s3 H3 scope ce fp) rfl rfl rfl hc i [] s5 _ H5 (fun _ _ => False) I5 (stat I5 n5) st5 go
      refine thnF ti fun r s6 ⟨u, hr, h6⟩ => ?_
      subst hr
      refine thnF h6 fun _ s7 ⟨x, H7, I7, r7, y7, st7, n7⟩ => ?_
      have I7' := I7.pinned (stat I7 n7) (T.obj _ _ st7)
      refine thnF (pg.run _ s7 _ H7 x u _ I7' r7 (step x H7 y7)) fun _ s8 ⟨σ8, H8, I8, hw8, q8⟩ => ?_
      refine thnF (pt.run _ s8 σ8 H8 _ I8 q8) fun b s9 ⟨H9, I9, q9⟩ => ?_
      have fin : ∀ {s' : Shared} {H' : Hp}, Inv (X.blk s3 H3 scope ce fp) ([] ++ pinsAt fp s7.heap) σ8 H' s' → Nx H' → ∃ m, m < n ∧ ∃ i H', Inv (X.blk s3 H3 scope ce fp) [] (wipe σ (own.map (·.2))) H' s' ∧ tn i s'.heap ∧ (∀ b ∈ fp, H' b = none) ∧ W i m H' := fun {s' H'} I' nx => by
        obtain ⟨m', hm, w'⟩ := hNx H' nx
        have pin' : ∀ b ∈ fp, ∀ o, s7.heap.get? b = some o → s'.heap.get? b = some o ∧ H' b = none := fun b hb o e =>
          let z := I'.pin (b, o) (List.mem_append_right _ (List.mem_append_right _ (mem_pinsAt hb e)))
          ⟨z.1, z.2.1⟩
        have hl : (wipe σ (own.map (·.2))).length = σ8.length := by rw [← hw8, wipe_length]
        refine ⟨m', hm, i + 1, H', (I'.unpinned (pins := [])).weak hl (fun j v e => ?_), T.keep _ _ _ st7 fun b hb o e => (pin' b hb o e).1, fun b hb => ?_, w'⟩
        · rw [← hw8] at e
          exact (wipe_some e).1
        · obtain ⟨o, e, _⟩ := T.obj _ _ st7 b hb
          exact (pin' b hb o e).2
      cases b with
      | false =>
        simp only [Bool.false_eq_true, if_false] at q9 ⊢
        exact fin I9 q9
      | true =>
        simp only [if_true] at q9 ⊢
        refine wpAny_mono (pe2.run _ s9 σ8 H9 _ (I9.wish _) q9) (fun z s10 ⟨yv, H10, I10, r10, acc, hD10, hz10, nx⟩ => ?_) fun _ _ z => z
        exact app_ok (X := X.blk s3 H3 scope ce fp) I10.unwish hD10 hz10 r10 fun s11 I11 => fin I11 nx
  exact codeAny_compStart_list loop (T.self X.A 0 _ _ _ st4 loop)
/-! a list comprehension over a tuple; ord -/
section
variable {K : PySem.W.Frag} {g : TG} {tt : TT} {te : TE} {vs : List Nat} {σ : L2.St} {H : Hp} {Q : VK} {a : Addr} {xs : List V} {tl : TE}
def kLcT (K : PySem.W.Frag) (g : TG) (tt : TT) (te : TE) (vs : List Nat) (σ : L2.St) (x : V) (H : Hp) (Q : VK) : Prop := tLc (iTup K (tC x)) g tt te vs σ H Q
theorem e_lcT (h : tl σ H fun x H1 => kLcT K g tt te vs σ x H1 Q) : tLc (iTup K tl) g tt te vs σ H Q := h
theorem lcT (h : SqT K H a xs) (Pv : Addr → Nat → Hp → Prop) (h0 : ∀ D H1, H D = none → Keep [] H H1 → H1 D = some (.lst []) → Pv D 0 H1) (hl : ∀ D i H, i ≤ xs.length → Pv D i H → SqT K H a xs)
    (hs : ∀ D i x H', H D = none → xs[i]? = some x → Pv D i H' → g x (wipe σ vs) H' fun σ2 H2 => wipe σ2 vs = wipe σ vs ∧ tt σ2 H2 fun b H3 => if b = true then te σ2 H3 fun y H4 => rApp D y H4 (Pv D (i + 1)) else Pv D (i + 1) H3)
    (hd : ∀ D H', H D = none → Pv D xs.length H' → Q (.ref D) H') : kLcT K g tt te vs σ (.ref a) H Q :=
  ⟨a, rfl, ⟨xs, h⟩, fun D hD => lc_tup (Pv D) (h0 D _ hD (Keep.new hD) upd_same) (hl D) (fun i x H' hi p => hs D i x H' hD hi p) (fun H' p => hd D H' hD p)⟩
end
def rOrd (xs : List V) (H : Hp) (Q : VK) : Prop := ∃ x : Str, xs = [.str x] ∧ x.length = 1 ∧ Q (.int (x.cps.getD 0 0 : Nat)) H
theorem call_ordR {X : Cx} : CallR X (.builtin "ord") rOrd := call_ord
theorem w_ord {H : Hp} {Q : VK} {c : Nat} (q : Q (.int (c : Int)) H) : rOrd [.str ⟨#[c]⟩] H Q := ⟨_, rfl, rfl, q⟩
theorem w_catT {K : PySem.W.Frag} {H : Hp} {Q : VK} {a b : Addr} {xs zs : List V} (h : SqT K H a xs) (h2 : SqT K H b zs) (n : xs ≠ []) (n2 : zs ≠ []) (z : xs.length + zs.length ≤ sizeLine) (q : ∀ l H1, H l = none → Keep [] H H1 → H1 l = some (.tup (xs ++ zs)) → Q (.ref l) H1) : rCatT K (.ref a) (.ref b) H Q :=
  ⟨a, b, xs, zs, rfl, rfl, h, h2, n, z, fun y => absurd y n2, fun _ l hl => q l _ hl (Keep.new hl) upd_same⟩
end W

end
section
set_option maxHeartbeats 4000000
/-! numbers in bytes: plain Lean -/
namespace My
open W PySem L2
theorem cutV_ne (vs : List V) (s e : Nat) : cutV vs (some (s : Int)) (some (e : Int)) = (vs.drop s).take (e - s) := by
  unfold cutV
  rw [HT.sIx_nat, HT.sIx_nat]
  by_cases h : s ≤ vs.length
  · rw [Nat.min_eq_left h]
    by_cases h2 : e ≤ vs.length
    · rw [Nat.min_eq_left h2]
    · rw [Nat.min_eq_right (by omega)]
      have e1 : (vs.drop s).take (vs.length - s) = vs.drop s := List.take_of_length_le (by rw [List.length_drop]; omega)
      have e2 : (vs.drop s).take (e - s) = vs.drop s := List.take_of_length_le (by rw [List.length_drop]; omega)
      rw [e1, e2]
  · have e1 : vs.drop (min s vs.length) = [] := List.drop_of_length_le (by omega)
    have e2 : vs.drop s = [] := List.drop_of_length_le (by omega)
    rw [e1, e2]; simp
theorem cutV_to (vs : List V) (e : Nat) : cutV vs none (some (e : Int)) = vs.take e := by
  have := cutV_ne vs 0 e
  rw [List.drop_zero, Nat.sub_zero] at this
  rw [← this]; unfold cutV; rw [HT.sIx_none, HT.sIx_nat, HT.sIx_nat]; simp
theorem cutV_from (vs : List V) (n : Nat) : cutV vs (some (n : Int)) none = vs.drop n := by
  have := cutV_ne vs n vs.length
  rw [List.take_of_length_le (by rw [List.length_drop]; omega)] at this
  rw [← this]; unfold cutV; rw [HT.sIx_none, HT.sIx_nat, HT.sIx_nat]; simp
theorem cutV_last (vs : List V) (n : Nat) (h : n ≤ vs.length) (h0 : 0 < n) : cutV vs (some (-(n : Int))) none = vs.drop (vs.length - n) := by
  have : HT.sIx vs.length 0 (some (-(n : Int))) = vs.length - n := by
    show (if -(n : Int) < 0 then (-(n : Int) + (vs.length : Int)).toNat else _) = _
    rw [if_pos (by omega)]; omega
  rw [← cutV_from]
  unfold cutV
  rw [this, HT.sIx_nat, Nat.min_eq_left (by omega)]
theorem eqvAll_ints : ∀ a b : List Int, PyData.eqvAll (a.map .int) (b.map .int) = decide (a = b)
  | [], [] => by simp [PyData.eqvAll]
  | [], _ :: _ => by simp [PyData.eqvAll]
  | _ :: _, [] => by simp [PyData.eqvAll]
  | x :: a, y :: b => by
    have := eqvAll_ints a b
    have e1 : PyData.eqv (.int x) (.int y) = (x == y) := by simp only [PyData.eqv]
    simp only [List.map_cons, PyData.eqvAll, e1, this]
    by_cases h : x = y
    · subst h; simp
    · simp [h]
theorem eqv_ints (a b : List Int) : PyData.eqv (.list (a.map .int)) (.list (b.map .int)) = decide (a = b) := by
  simp only [PyData.eqv]; exact eqvAll_ints a b
/-- a number's bytes -/
def wn (n : Nat) : List Int := if n < 128 then [(n : Int)] else ((n % 128 + 128 : Nat) : Int) :: wn (n / 128)
termination_by n
decreasing_by omega
theorem wn_lo {n : Nat} (h : n < 128) : wn n = [(n : Int)] := by rw [wn, if_pos h]
theorem wn_hi {n : Nat} (h : ¬ n < 128) : wn n = ((n % 128 + 128 : Nat) : Int) :: wn (n / 128) := by rw [wn, if_neg h]
theorem wn_len : ∀ (k n : Nat), n < 128 ^ (k + 1) → (wn n).length ≤ k + 1
  | 0, n, h => by rw [wn_lo (by omega)]; simp
  | k + 1, n, h => by
    by_cases h1 : n < 128
    · rw [wn_lo h1]; simp
    · rw [wn_hi h1, List.length_cons]
      have := wn_len k (n / 128) (by rw [Nat.div_lt_iff_lt_mul (by omega)]; rw [Nat.pow_succ] at h; exact h)
      omega
theorem wn_pos (n : Nat) : 0 < (wn n).length := by
  by_cases h : n < 128
  · rw [wn_lo h]; simp
  · rw [wn_hi h]; simp
/-- the reader of a number: what it takes and the number. f: signs left, i: signs read -/
def rn : Nat → List Int → Nat → Int → Int → Option (Nat × Int)
  | 0, _, _, _, _ => none
  | _ + 1, [], _, _, _ => none
  | f + 1, b :: r, i, t, c => if b < 128 then (if b = 0 ∧ 0 < i then none else some (i + 1, t + b % 128 * c)) else rn f r (i + 1) (t + b % 128 * c) (c * 128)
theorem rn_wn : ∀ (f n : Nat) (r : List Int) (i : Nat) (t c : Int), (wn n).length ≤ f → (0 < n ∨ i = 0) → rn f (wn n ++ r) i t c = some (i + (wn n).length, t + (n : Int) * c)
  | 0, n, _, _, _, _, h, _ => by have := wn_pos n; omega
  | f + 1, n, r, i, t, c, h, h0 => by
    by_cases h1 : n < 128
    · rw [wn_lo h1]
      show (if (n : Int) < 128 then (if (n : Int) = 0 ∧ 0 < i then none else some (i + 1, t + (n : Int) % 128 * c)) else _) = _
      rw [if_pos (by omega), if_neg (by omega), Int.emod_eq_of_lt (by omega) (by omega)]; rfl
    · rw [wn_hi h1] at h ⊢
      rw [List.length_cons] at h
      show (if ((n % 128 + 128 : Nat) : Int) < 128 then _ else rn f (wn (n / 128) ++ r) (i + 1) (t + ((n % 128 + 128 : Nat) : Int) % 128 * c) (c * 128)) = _
      rw [if_neg (by omega), rn_wn f (n / 128) r (i + 1) _ _ (by omega) (.inl (by omega))]
      have e1 : ((n % 128 + 128 : Nat) : Int) % 128 = (n : Int) % 128 := by omega
      have e2 : (n : Int) = (n : Int) % 128 + 128 * ((n / 128 : Nat) : Int) := by omega
      rw [e1, List.length_cons]
      congr 2
      · omega
      · generalize ((n / 128 : Nat) : Int) = q at e2
        generalize (n : Int) % 128 = m at e2
        rw [e2, Int.add_mul, Int.mul_comm 128 q, Int.mul_assoc, Int.mul_comm 128 c, Int.add_assoc]
/-- bytes that all go on: nothing is read -/
theorem rn_on : ∀ (f : Nat) (l : List Int) (i : Nat) (t c : Int), (∀ b ∈ l, 128 ≤ b) → rn f l i t c = none
  | 0, _, _, _, _, _ => rfl
  | _ + 1, [], _, _, _, _ => rfl
  | f + 1, b :: r, i, t, c, h => by
    show (if b < 128 then _ else _) = _
    rw [if_neg (by have := h b (by simp); omega)]
    exact rn_on f r _ _ _ (fun x hx => h x (by simp [hx]))
/-- .. then a needless zero -/
theorem rn_zero : ∀ (f : Nat) (l r : List Int) (i : Nat) (t c : Int), (∀ b ∈ l, 128 ≤ b) → (0 < i ∨ l ≠ []) → rn f (l ++ 0 :: r) i t c = none
  | 0, _, _, _, _, _, _, _ => rfl
  | f + 1, [], r, i, t, c, _, h => by
    have hi : 0 < i := h.elim id fun z => absurd rfl z
    show (if (0 : Int) < 128 then (if (0 : Int) = 0 ∧ 0 < i then none else _) else _) = _
    rw [if_pos (by omega), if_pos ⟨rfl, hi⟩]
  | f + 1, b :: l, r, i, t, c, h, _ => by
    show (if b < 128 then _ else rn f (l ++ 0 :: r) _ _ _) = _
    rw [if_neg (by have := h b (by simp); omega)]
    exact rn_zero f l r _ _ _ (fun x hx => h x (by simp [hx])) (.inl (by omega))
/-- all but the last byte of a number go on -/
theorem wn_init : ∀ (n : Nat) (k : Nat), n ≤ k → ∀ b ∈ (wn n).take ((wn n).length - 1), 128 ≤ b
  | n, 0, h, b, hb => by
    rw [wn_lo (by omega)] at hb; simp at hb
  | n, k + 1, h, b, hb => by
    by_cases h1 : n < 128
    · rw [wn_lo h1] at hb; simp at hb
    · rw [wn_hi h1] at hb
      rw [List.length_cons, Nat.add_sub_cancel] at hb
      have hp := wn_pos (n / 128)
      obtain ⟨m, hm⟩ : ∃ m, (wn (n / 128)).length = m + 1 := ⟨(wn (n / 128)).length - 1, by omega⟩
      rw [hm, List.take_succ_cons] at hb
      rcases List.mem_cons.mp hb with z | z
      · omega
      · exact wn_init (n / 128) k (by omega) b (by rw [hm]; exact z)
theorem wn_byte : ∀ (k n : Nat), n ≤ k → ∀ b ∈ wn n, 0 ≤ b ∧ b < 256
  | 0, n, h, b, hb => by rw [wn_lo (by omega)] at hb; simp at hb; omega
  | k + 1, n, h, b, hb => by
    by_cases h1 : n < 128
    · rw [wn_lo h1] at hb; simp at hb; omega
    · rw [wn_hi h1] at hb
      rcases List.mem_cons.mp hb with z | z
      · omega
      · exact wn_byte k (n / 128) (by omega) b z
end My

end
section
set_option maxHeartbeats 4000000
/-! what is written and read: plain Lean. A reader of bytes ds from place p on tells what it read and where it stands then -/
namespace My
open W PySem L2
theorem rn_nn : ∀ (f : Nat) (l : List Int) (i : Nat) (t c : Int) (j : Nat) (n : Int), 0 ≤ t → 0 ≤ c → rn f l i t c = some (j, n) → 0 ≤ n
  | 0, _, _, _, _, _, _, _, _, h => by cases h
  | _ + 1, [], _, _, _, _, _, _, _, h => by cases h
  | f + 1, b :: r, i, t, c, j, n, ht, hc, h => by
    have hm : 0 ≤ b % 128 * c := Int.mul_nonneg (Int.emod_nonneg _ (by decide)) hc
    have h2 : (if b < 128 then (if b = 0 ∧ 0 < i then none else some (i + 1, t + b % 128 * c)) else rn f r (i + 1) (t + b % 128 * c) (c * 128)) = some (j, n) := h
    split at h2
    · split at h2
      · cases h2
      · cases h2; omega
    · exact rn_nn f r _ _ _ j n (by omega) (by omega) h2
theorem rn_pos : ∀ (f : Nat) (l : List Int) (i : Nat) (t c : Int) (j : Nat) (n : Int), rn f l i t c = some (j, n) → i < j ∧ j ≤ i + l.length
  | 0, _, _, _, _, _, _, h => by cases h
  | _ + 1, [], _, _, _, _, _, h => by cases h
  | f + 1, b :: r, i, t, c, j, n, h => by
    have h2 : (if b < 128 then (if b = 0 ∧ 0 < i then none else some (i + 1, t + b % 128 * c)) else rn f r (i + 1) (t + b % 128 * c) (c * 128)) = some (j, n) := h
    split at h2
    · split at h2
      · cases h2
      · cases h2; simp
    · have := rn_pos f r _ _ _ j n h2
      simp; omega
section
variable {α β : Type}
abbrev Rdr (α : Type) := List Int → Nat → Option (α × Nat)
def pnum : Rdr Nat := fun ds p => (rn 60 (ds.drop p) 0 0 1).map fun z => (z.2.toNat, p + z.1)
theorem pnum_some {ds : List Int} {p i : Nat} {n : Int} (h : rn 60 (ds.drop p) 0 0 1 = some (i, n)) : pnum ds p = some (n.toNat, p + i) ∧ n = (n.toNat : Int) := by
  have := rn_nn _ _ _ _ _ _ _ (by decide) (by decide) h
  exact ⟨by unfold pnum; rw [h]; rfl, by omega⟩
theorem pnum_none {ds : List Int} {p : Nat} (h : rn 60 (ds.drop p) 0 0 1 = none) : pnum ds p = none := by unfold pnum; rw [h]; rfl
theorem pnum_at {ds : List Int} {p q n : Nat} (h : pnum ds p = some (n, q)) (hp : p ≤ ds.length) : p < q ∧ q ≤ ds.length := by
  unfold pnum at h
  cases hr : rn 60 (ds.drop p) 0 0 1 with
  | none => rw [hr] at h; cases h
  | some z =>
    rw [hr] at h
    cases h
    have := rn_pos _ _ _ _ _ z.1 z.2 hr
    rw [List.length_drop] at this
    omega
def pcnt : Rdr Nat := fun ds p => (pnum ds p).bind fun z => if ds.length < z.1 + z.2 then none else some z
theorem pcnt_le {ds : List Int} {p q n : Nat} (h : pcnt ds p = some (n, q)) : n + q ≤ ds.length ∧ pnum ds p = some (n, q) := by
  unfold pcnt at h
  cases hr : pnum ds p with
  | none => rw [hr] at h; cases h
  | some z =>
    rw [hr] at h
    have h : (if ds.length < z.1 + z.2 then none else some z) = some (n, q) := h
    split at h
    · cases h
    · cases h; exact ⟨by omega, rfl⟩
def okch (c : Nat) : Bool := c == 10 || (decide (32 ≤ c) && decide (c < 127) && c != 37)
def psig : Rdr Nat := fun ds p => (pnum ds p).bind fun z => if okch z.1 then some z else none
def pmany (f : Nat → Option (α × Nat)) : Nat → Nat → Option (List α × Nat)
  | 0, p => some ([], p)
  | k + 1, p => (f p).bind fun z => (pmany f k z.2).map fun y => (z.1 :: y.1, y.2)
theorem pmany_snoc (f : Nat → Option (α × Nat)) : ∀ k p, pmany f (k + 1) p = (pmany f k p).bind fun y => (f y.2).map fun z => (y.1 ++ [z.1], z.2)
  | 0, p => by
    show (f p).bind (fun z => (some ([], z.2) : Option (List α × Nat)).map fun y => (z.1 :: y.1, y.2)) = (f p).map _
    cases f p <;> rfl
  | k + 1, p => by
    show (f p).bind (fun z => (pmany f (k + 1) z.2).map fun y => (z.1 :: y.1, y.2)) = ((f p).bind fun z => (pmany f k z.2).map fun y => (z.1 :: y.1, y.2)).bind _
    cases f p with
    | none => rfl
    | some z =>
      show (pmany f (k + 1) z.2).map _ = ((pmany f k z.2).map _).bind _
      rw [pmany_snoc f k z.2]
      cases pmany f k z.2 with
      | none => rfl
      | some y =>
        show ((f y.2).map _).map _ = (f y.2).map _
        cases f y.2 <;> rfl
theorem pmany_none (f : Nat → Option (α × Nat)) {k p : Nat} (h : pmany f k p = none) : ∀ j, pmany f (k + j) p = none
  | 0 => h
  | j + 1 => by rw [← Nat.add_assoc, pmany_snoc, pmany_none f h j]; rfl
theorem pmany_stop (f : Nat → Option (α × Nat)) {k n p q : Nat} {l : List α} (h : pmany f k p = some (l, q)) (hf : f q = none) (hk : k < n) : pmany f n p = none := by
  have h1 : pmany f (k + 1) p = none := by rw [pmany_snoc, h]; show (f q).map _ = none; rw [hf]; rfl
  have := pmany_none f h1 (n - (k + 1))
  rw [show k + 1 + (n - (k + 1)) = n by omega] at this
  exact this
theorem pmany_step (f : Nat → Option (α × Nat)) {k p q r : Nat} {l : List α} {a : α} (h : pmany f k p = some (l, q)) (hf : f q = some (a, r)) : pmany f (k + 1) p = some (l ++ [a], r) := by
  rw [pmany_snoc, h]; show (f q).map _ = _; rw [hf]; rfl
theorem pmany_len (f : Nat → Option (α × Nat)) : ∀ {k p q : Nat} {l : List α}, pmany f k p = some (l, q) → l.length = k
  | 0, _, _, _, h => by cases h; rfl
  | k + 1, p, q, l, h => by
    have h : (f p).bind (fun z => (pmany f k z.2).map fun y => (z.1 :: y.1, y.2)) = some (l, q) := h
    cases hf : f p with
    | none => rw [hf] at h; cases h
    | some z =>
      rw [hf] at h
      have h : (pmany f k z.2).map (fun y => (z.1 :: y.1, y.2)) = some (l, q) := h
      cases hm : pmany f k z.2 with
      | none => rw [hm] at h; cases h
      | some y =>
        rw [hm] at h
        cases h
        simp [pmany_len f hm]
def plist (P : Rdr α) : Rdr (List α) := fun ds p => (pcnt ds p).bind fun z => pmany (P ds) z.1 z.2
theorem plist_len {P : Rdr α} {ds : List Int} {p q : Nat} {l : List α} (h : plist P ds p = some (l, q)) : l.length ≤ ds.length := by
  unfold plist at h
  cases hc : pcnt ds p with
  | none => rw [hc] at h; cases h
  | some z =>
    rw [hc] at h
    have := pmany_len _ h
    have := pcnt_le (ds := ds) (p := p) (q := z.2) (n := z.1) hc
    omega
/-- what is written is read -/
def RT (P : Rdr α) (w : α → List Int) (a : α) : Prop := ∀ x y, P (x ++ (w a ++ y)) x.length = some (a, x.length + (w a).length)
theorem RT.at {P : Rdr α} {w : α → List Int} {a : α} (h : RT P w a) {ds : List Int} {p : Nat} (x y : List Int) (e : ds = x ++ (w a ++ y)) (hp : p = x.length) : P ds p = some (a, p + (w a).length) := by
  subst e hp; exact h x y
theorem RT_num {n : Nat} (h : n < 128 ^ 60) : RT pnum wn n := fun x y => by
  have h1 := rn_wn 60 n y 0 0 1 (wn_len 59 n h) (.inr rfl)
  have h2 : rn 60 ((x ++ (wn n ++ y)).drop x.length) 0 0 1 = some (0 + (wn n).length, 0 + (n : Int) * 1) := by rw [List.drop_left]; exact h1
  unfold pnum; rw [h2]; simp
theorem RT_cnt {n : Nat} (h : n < 128 ^ 60) (x y : List Int) (hy : n ≤ y.length) : pcnt (x ++ (wn n ++ y)) x.length = some (n, x.length + (wn n).length) := by
  unfold pcnt
  rw [RT_num h x y]
  show (if _ then _ else _) = _
  rw [if_neg (by simp only [List.length_append]; omega)]
theorem RT_sig {c : Nat} (h : okch c = true) : RT psig wn c := fun x y => by
  have hc : c < 128 ^ 60 := Nat.lt_of_lt_of_le (show c < 128 by
    unfold okch at h; simp at h; omega) (by decide)
  unfold psig; rw [RT_num hc x y]; show (if okch c = true then _ else _) = _; rw [if_pos h]
def wl (xs : List (List Int)) : List Int := wn xs.length ++ xs.flatten
theorem RT_many {P : Rdr α} {w : α → List Int} : ∀ (as : List α), (∀ a ∈ as, RT P w a) → ∀ x y, pmany (P (x ++ ((as.map w).flatten ++ y))) as.length x.length = some (as, x.length + (as.map w).flatten.length)
  | [], _, x, y => by simp [pmany]
  | a :: as, h, x, y => by
    have h1 := h a (by simp) x ((as.map w).flatten ++ y)
    have ih := RT_many as (fun b hb => h b (by simp [hb])) (x ++ w a) y
    have e : x ++ (((a :: as).map w).flatten ++ y) = x ++ (w a ++ ((as.map w).flatten ++ y)) := by simp
    have e2 : x ++ w a ++ ((as.map w).flatten ++ y) = x ++ (w a ++ ((as.map w).flatten ++ y)) := by simp
    rw [e2, List.length_append] at ih
    rw [e]
    show ((P _ x.length).bind fun z => (pmany (P _) as.length z.2).map fun y => (z.1 :: y.1, y.2)) = _
    rw [h1]
    show (pmany (P _) as.length (x.length + (w a).length)).map _ = _
    rw [ih]
    simp [Nat.add_assoc]
theorem flat_len {w : α → List Int} : ∀ (as : List α), (∀ a ∈ as, 0 < (w a).length) → as.length ≤ (as.map w).flatten.length
  | [], _ => by simp
  | a :: as, h => by
    have := flat_len as (fun b hb => h b (by simp [hb]))
    have := h a (by simp)
    rw [List.map_cons, List.flatten_cons, List.length_append, List.length_cons]; omega
theorem RT_list {P : Rdr α} {w : α → List Int} {as : List α} (h : ∀ a ∈ as, RT P w a) (h1 : ∀ a ∈ as, 0 < (w a).length) (h2 : as.length < 128 ^ 60) : RT (plist P) (fun as => wl (as.map w)) as := fun x y => by
  have hc := RT_cnt h2 x ((as.map w).flatten ++ y) (by have := flat_len as h1; rw [List.length_append]; omega)
  have hm := RT_many as h (x ++ wn as.length) y
  have e : x ++ (wl (as.map w) ++ y) = x ++ (wn as.length ++ ((as.map w).flatten ++ y)) := by simp [wl]
  have e2 : x ++ wn as.length ++ ((as.map w).flatten ++ y) = x ++ (wn as.length ++ ((as.map w).flatten ++ y)) := by simp
  rw [e2, List.length_append] at hm
  unfold plist
  rw [e, hc]
  show pmany _ as.length (x.length + (wn as.length).length) = _
  rw [hm]
  simp [wl, Nat.add_assoc]
end
def pstr : Rdr (List Nat) := plist psig
def ws (s : List Nat) : List Int := wl (s.map wn)
def pmk : Rdr (Nat × Nat) := fun ds p => (pnum ds p).bind fun y => (pnum ds y.2).map fun z => ((y.1, z.1), z.2)
def wm (m : Nat × Nat) : List Int := wn m.1 ++ wn m.2
def pbyte : Rdr Int := fun ds p => if p < ds.length then some (ds.getD p 0, p + 1) else none
def pch : Rdr Int := fun ds p => (pbyte ds p).bind fun z => if 2 ≤ z.1 then none else some z
/-- deeds -/
inductive Dd
  | back (n : Nat)
  | chg (m : List Nat) (rm : List (Nat × Nat)) (bh : Option (Nat × Nat)) (n : Nat) (t : List Nat)
def pbh : Rdr (Option (Nat × Nat)) := fun ds p => (pch ds p).bind fun z => if z.1 = 1 then (pmk ds z.2).map fun y => (some y.1, y.2) else some (none, z.2)
def pdd : Rdr Dd := fun ds p => (pch ds p).bind fun z => if z.1 = 1 then (pnum ds z.2).map fun y => (.back y.1, y.2) else
  (pstr ds z.2).bind fun m => (plist pmk ds m.2).bind fun rm => (pbh ds rm.2).bind fun bh => (pnum ds bh.2).bind fun n => (pstr ds n.2).map fun t => (.chg m.1 rm.1 bh.1 n.1 t.1, t.2)
def wbh : Option (Nat × Nat) → List Int
  | none => [0]
  | some m => 1 :: wm m
def wd : Dd → List Int
  | .back n => 1 :: wn n
  | .chg m rm bh n t => 0 :: (ws m ++ wl (rm.map wm) ++ wbh bh ++ wn n ++ ws t)
structure Tri where
  r : Nat
  p : Nat
  d : Dd
def ptr : Rdr Tri := fun ds p => (pnum ds p).bind fun y => (pnum ds y.2).bind fun z => (pdd ds z.2).map fun d => (⟨y.1, z.1, d.1⟩, d.2)
def wt (t : Tri) : List Int := wn t.r ++ wn t.p ++ wd t.d
def ptrs : Rdr (List Tri) := plist ptr
def wts (ts : List Tri) : List Int := wl (ts.map wt)
def ppk : Rdr (List Tri) := fun ds p => (pbyte ds p).bind fun z => if z.1 = 1 then ptrs ds z.2 else none
def wp (ts : List Tri) : List Int := 1 :: wts ts
def oks (s : List Nat) : Prop := (∀ c ∈ s, okch c = true) ∧ s.length ≤ 1000000
def okn (n : Nat) : Prop := n < 2 ^ 70
def okm (m : Nat × Nat) : Prop := okn m.1 ∧ okn m.2
def okd : Dd → Prop
  | .back n => okn n
  | .chg m rm bh n t => oks m ∧ (∀ x ∈ rm, okm x) ∧ rm.length ≤ 1000 ∧ (∀ x, bh = some x → okm x) ∧ okn n ∧ oks t
def okt (t : Tri) : Prop := okn t.r ∧ okn t.p ∧ okd t.d
theorem okn.lt {n : Nat} (h : okn n) : n < 128 ^ 60 := Nat.lt_of_lt_of_le h (by decide)
theorem RT_str {s : List Nat} (h : oks s) : RT pstr ws s := RT_list (fun a ha => RT_sig (h.1 a ha)) (fun a _ => wn_pos a) (Nat.lt_of_le_of_lt h.2 (by decide))
theorem RT_mk {m : Nat × Nat} (h : okm m) : RT pmk wm m := fun x y => by
  have h1 := RT_num h.1.lt x (wn m.2 ++ y)
  have h2 := RT_num h.2.lt (x ++ wn m.1) y
  have e : x ++ (wm m ++ y) = x ++ (wn m.1 ++ (wn m.2 ++ y)) := by simp [wm]
  have e2 : x ++ wn m.1 ++ (wn m.2 ++ y) = x ++ (wn m.1 ++ (wn m.2 ++ y)) := by simp
  rw [e2, List.length_append] at h2
  unfold pmk
  rw [e, h1]
  show (pnum _ (x.length + (wn m.1).length)).map _ = _
  rw [h2]
  simp [wm, Nat.add_assoc]
theorem RT_byte (b : Int) (x y : List Int) : pbyte (x ++ (b :: y)) x.length = some (b, x.length + 1) := by
  unfold pbyte
  rw [if_pos (by simp), List.getD_eq_getElem?_getD, List.getElem?_append_right (Nat.le_refl _), Nat.sub_self]; rfl
theorem RT_ch {b : Int} (h : b < 2) (x y : List Int) : pch (x ++ (b :: y)) x.length = some (b, x.length + 1) := by
  unfold pch
  rw [RT_byte]
  show (if 2 ≤ b then none else _) = _
  rw [if_neg (by omega)]
theorem wm_pos (m : Nat × Nat) : 0 < (wm m).length := by have := wn_pos m.1; unfold wm; rw [List.length_append]; omega
theorem RT_mks {rm : List (Nat × Nat)} (h : ∀ x ∈ rm, okm x) (h2 : rm.length ≤ 1000) : RT (plist pmk) (fun rm => wl (rm.map wm)) rm := RT_list (fun a ha => RT_mk (h a ha)) (fun a _ => wm_pos a) (Nat.lt_of_le_of_lt h2 (by decide))
theorem RT_bh {bh : Option (Nat × Nat)} (h : ∀ x, bh = some x → okm x) : RT pbh wbh bh := fun x y => by
  unfold pbh
  cases bh with
  | none =>
    have h1 := RT_ch (b := 0) (by decide) x y
    show (pch (x ++ (0 :: y)) x.length).bind _ = _
    rw [h1]; rfl
  | some m =>
    have h1 := RT_ch (b := 1) (by decide) x (wm m ++ y)
    have h2 := (RT_mk (h m rfl)).at (ds := x ++ (1 :: (wm m ++ y))) (p := x.length + 1) (x ++ [1]) y (by simp) (by simp)
    show (pch (x ++ (1 :: (wm m ++ y))) x.length).bind _ = _
    rw [h1]
    show (pmk (x ++ (1 :: (wm m ++ y))) (x.length + 1)).map _ = _
    rw [h2]
    simp [wbh]; omega
theorem RT_dd {d : Dd} (h : okd d) : RT pdd wd d := fun x y => by
  unfold pdd
  cases d with
  | back n =>
    have h1 := RT_ch (b := 1) (by decide) x (wn n ++ y)
    have h2 := (RT_num (okn.lt h)).at (ds := x ++ (1 :: (wn n ++ y))) (p := x.length + 1) (x ++ [1]) y (by simp) (by simp)
    show (pch (x ++ (1 :: (wn n ++ y))) x.length).bind _ = _
    rw [h1]
    show (pnum (x ++ (1 :: (wn n ++ y))) (x.length + 1)).map _ = _
    rw [h2]
    simp [wd]; omega
  | chg m rm bh n t =>
    obtain ⟨o1, o2, o3, o4, o5, o6⟩ := h
    have e : x ++ (wd (.chg m rm bh n t) ++ y) = x ++ 0 :: (ws m ++ (wl (rm.map wm) ++ (wbh bh ++ (wn n ++ (ws t ++ y))))) := by simp [wd]
    rw [e]
    generalize hds : x ++ 0 :: (ws m ++ (wl (rm.map wm) ++ (wbh bh ++ (wn n ++ (ws t ++ y))))) = ds
    have h0 : pch ds x.length = some (0, x.length + 1) := by rw [← hds]; exact RT_ch (b := 0) (by decide) x _
    have h1 := (RT_str o1).at (ds := ds) (p := x.length + 1) (x ++ [0]) (wl (rm.map wm) ++ (wbh bh ++ (wn n ++ (ws t ++ y)))) (by rw [← hds]; simp) (by simp)
    have h2 := (RT_mks o2 o3).at (ds := ds) (p := x.length + 1 + (ws m).length) (x ++ [0] ++ ws m) (wbh bh ++ (wn n ++ (ws t ++ y))) (by rw [← hds]; simp) (by simp; omega)
    have h3 := (RT_bh o4).at (ds := ds) (p := x.length + 1 + (ws m).length + (wl (rm.map wm)).length) (x ++ [0] ++ ws m ++ wl (rm.map wm)) (wn n ++ (ws t ++ y)) (by rw [← hds]; simp) (by simp; omega)
    have h4 := (RT_num o5.lt).at (ds := ds) (p := x.length + 1 + (ws m).length + (wl (rm.map wm)).length + (wbh bh).length) (x ++ [0] ++ ws m ++ wl (rm.map wm) ++ wbh bh) (ws t ++ y) (by rw [← hds]; simp) (by simp; omega)
    have h5 := (RT_str o6).at (ds := ds) (p := x.length + 1 + (ws m).length + (wl (rm.map wm)).length + (wbh bh).length + (wn n).length) (x ++ [0] ++ ws m ++ wl (rm.map wm) ++ wbh bh ++ wn n) y (by rw [← hds]; simp) (by simp; omega)
    rw [h0]
    simp only [Option.bind_some, if_neg (show ¬ ((0 : Int) = 1) by decide)]
    rw [h1]
    simp only [Option.bind_some]
    rw [h2]
    simp only [Option.bind_some]
    rw [h3]
    simp only [Option.bind_some]
    rw [h4]
    simp only [Option.bind_some]
    rw [h5]
    simp [wd]; omega
theorem RT_tr {t : Tri} (h : okt t) : RT ptr wt t := fun x y => by
  obtain ⟨o1, o2, o3⟩ := h
  have e : x ++ (wt t ++ y) = x ++ (wn t.r ++ (wn t.p ++ (wd t.d ++ y))) := by simp [wt]
  rw [e]
  generalize hds : x ++ (wn t.r ++ (wn t.p ++ (wd t.d ++ y))) = ds
  have h1 := (RT_num o1.lt).at (ds := ds) (p := x.length) x (wn t.p ++ (wd t.d ++ y)) hds.symm rfl
  have h2 := (RT_num o2.lt).at (ds := ds) (p := x.length + (wn t.r).length) (x ++ wn t.r) (wd t.d ++ y) (by rw [← hds]; simp) (by simp)
  have h3 := (RT_dd o3).at (ds := ds) (p := x.length + (wn t.r).length + (wn t.p).length) (x ++ wn t.r ++ wn t.p) y (by rw [← hds]; simp) (by simp; omega)
  unfold ptr
  rw [h1]
  simp only [Option.bind_some]
  rw [h2]
  simp only [Option.bind_some]
  rw [h3]
  simp [wt, Nat.add_assoc]
theorem wt_pos (t : Tri) : 0 < (wt t).length := by have := wn_pos t.r; unfold wt; simp only [List.length_append]; omega
theorem RT_trs {ts : List Tri} (h : ∀ t ∈ ts, okt t) (h2 : ts.length ≤ 1000) : RT ptrs wts ts := RT_list (fun a ha => RT_tr (h a ha)) (fun a _ => wt_pos a) (Nat.lt_of_le_of_lt h2 (by decide))
theorem RT_pk {ts : List Tri} (h : ∀ t ∈ ts, okt t) (h2 : ts.length ≤ 1000) : RT ppk wp ts := fun x y => by
  have h1 := RT_byte 1 x (wts ts ++ y)
  have h3 := (RT_trs h h2).at (ds := x ++ (1 :: (wts ts ++ y))) (p := x.length + 1) (x ++ [1]) y (by simp) (by simp)
  unfold ppk
  show (pbyte (x ++ (1 :: (wts ts ++ y))) x.length).bind _ = _
  rw [h1]
  show (if (1 : Int) = 1 then ptrs (x ++ (1 :: (wts ts ++ y))) (x.length + 1) else none) = _
  rw [if_pos rfl, h3]
  simp [wp]; omega
end My

end
section
set_option maxHeartbeats 4000000
namespace My
open PySem L2 W
def topS (i : Nat) : Stmt := PySem.Challenge.pw_planwhole_k12_bytes_written_and_read.main.body.getD i (.Pass ⟨0, 0, 0, 0⟩)
abbrev s__wall : Stmt := topS 0
abbrev nm__wall : List Str := ["k"]
theorem sc__wall : FnScope nm__wall ["k"] (defScope s__wall) := ⟨rfl, rfl, rfl, by decide +kernel, rfl, by decide +kernel, by decide +kernel⟩
theorem st__wall (v0 : V) : start nm__wall [v0] = [some v0] := rfl
abbrev s_Reader___init__ : Stmt := inClass (topS 8) 0
abbrev nm_Reader___init__ : List Str := ["self", "data"]
theorem sc_Reader___init__ : FnScope nm_Reader___init__ ["self", "data"] (defScope s_Reader___init__) := ⟨rfl, rfl, rfl, by decide +kernel, rfl, by decide +kernel, by decide +kernel⟩
theorem st_Reader___init__ (v0 v1 : V) : start nm_Reader___init__ [v0, v1] = [some v0, some v1] := rfl
abbrev s_Reader_read_byte : Stmt := inClass (topS 8) 1
abbrev nm_Reader_read_byte : List Str := ["self"]
theorem sc_Reader_read_byte : FnScope nm_Reader_read_byte ["self"] (defScope s_Reader_read_byte) := ⟨rfl, rfl, rfl, by decide +kernel, rfl, by decide +kernel, by decide +kernel⟩
theorem st_Reader_read_byte (v0 : V) : start nm_Reader_read_byte [v0] = [some v0] := rfl
abbrev s_Reader_read_choice : Stmt := inClass (topS 8) 2
abbrev nm_Reader_read_choice : List Str := ["self", "count", "byte"]
theorem sc_Reader_read_choice : FnScope nm_Reader_read_choice ["self", "count"] (defScope s_Reader_read_choice) := ⟨rfl, rfl, rfl, by decide +kernel, rfl, by decide +kernel, by decide +kernel⟩
theorem st_Reader_read_choice (v0 v1 : V) : start nm_Reader_read_choice [v0, v1] = [some v0, some v1, none] := rfl
abbrev s_Reader_end : Stmt := inClass (topS 8) 3
abbrev nm_Reader_end : List Str := ["self"]
theorem sc_Reader_end : FnScope nm_Reader_end ["self"] (defScope s_Reader_end) := ⟨rfl, rfl, rfl, by decide +kernel, rfl, by decide +kernel, by decide +kernel⟩
theorem st_Reader_end (v0 : V) : start nm_Reader_end [v0] = [some v0] := rfl
abbrev s_Reader_read_number : Stmt := inClass (topS 8) 4
abbrev nm_Reader_read_number : List Str := ["self", "total", "factor", "index", "byte"]
theorem sc_Reader_read_number : FnScope nm_Reader_read_number ["self"] (defScope s_Reader_read_number) := ⟨rfl, rfl, rfl, by decide +kernel, rfl, by decide +kernel, by decide +kernel⟩
theorem st_Reader_read_number (v0 : V) : start nm_Reader_read_number [v0] = [some v0, none, none, none, none] := rfl
abbrev s_Reader_read_count : Stmt := inClass (topS 8) 5
abbrev nm_Reader_read_count : List Str := ["self", "count"]
theorem sc_Reader_read_count : FnScope nm_Reader_read_count ["self"] (defScope s_Reader_read_count) := ⟨rfl, rfl, rfl, by decide +kernel, rfl, by decide +kernel, by decide +kernel⟩
theorem st_Reader_read_count (v0 : V) : start nm_Reader_read_count [v0] = [some v0, none] := rfl
abbrev s_Reader_read_character : Stmt := inClass (topS 8) 6
abbrev nm_Reader_read_character : List Str := ["self", "code"]
theorem sc_Reader_read_character : FnScope nm_Reader_read_character ["self"] (defScope s_Reader_read_character) := ⟨rfl, rfl, rfl, by decide +kernel, rfl, by decide +kernel, by decide +kernel⟩
theorem st_Reader_read_character (v0 : V) : start nm_Reader_read_character [v0] = [some v0, none] := rfl
abbrev s_Reader_read_string : Stmt := inClass (topS 8) 7
abbrev nm_Reader_read_string : List Str := ["self", "_"]
theorem sc_Reader_read_string : FnScope nm_Reader_read_string ["self"] (defScope s_Reader_read_string) := ⟨rfl, rfl, rfl, by decide +kernel, rfl, by decide +kernel, by decide +kernel⟩
theorem st_Reader_read_string (v0 : V) : start nm_Reader_read_string [v0] = [some v0, none] := rfl
abbrev s_Reader_read_mark : Stmt := inClass (topS 8) 8
abbrev nm_Reader_read_mark : List Str := ["self", "number"]
theorem sc_Reader_read_mark : FnScope nm_Reader_read_mark ["self"] (defScope s_Reader_read_mark) := ⟨rfl, rfl, rfl, by decide +kernel, rfl, by decide +kernel, by decide +kernel⟩
theorem st_Reader_read_mark (v0 : V) : start nm_Reader_read_mark [v0] = [some v0, none] := rfl
abbrev s_Reader_read_deed : Stmt := inClass (topS 8) 9
abbrev nm_Reader_read_deed : List Str := ["self", "module", "removed", "_", "behind", "number"]
theorem sc_Reader_read_deed : FnScope nm_Reader_read_deed ["self"] (defScope s_Reader_read_deed) := ⟨rfl, rfl, rfl, by decide +kernel, rfl, by decide +kernel, by decide +kernel⟩
theorem st_Reader_read_deed (v0 : V) : start nm_Reader_read_deed [v0] = [some v0, none, none, none, none, none] := rfl
abbrev s_Reader_read_deeds : Stmt := inClass (topS 8) 10
abbrev nm_Reader_read_deeds : List Str := ["self"]
theorem sc_Reader_read_deeds : FnScope nm_Reader_read_deeds ["self"] (defScope s_Reader_read_deeds) := ⟨rfl, rfl, rfl, by decide +kernel, rfl, by decide +kernel, by decide +kernel⟩
theorem st_Reader_read_deeds (v0 : V) : start nm_Reader_read_deeds [v0] = [some v0] := rfl
abbrev s_Reader_read_triple : Stmt := inClass (topS 8) 11
abbrev nm_Reader_read_triple : List Str := ["self", "replica", "place"]
theorem sc_Reader_read_triple : FnScope nm_Reader_read_triple ["self"] (defScope s_Reader_read_triple) := ⟨rfl, rfl, rfl, by decide +kernel, rfl, by decide +kernel, by decide +kernel⟩
theorem st_Reader_read_triple (v0 : V) : start nm_Reader_read_triple [v0] = [some v0, none, none] := rfl
abbrev s_Reader_read_triples : Stmt := inClass (topS 8) 12
abbrev nm_Reader_read_triples : List Str := ["self", "_"]
theorem sc_Reader_read_triples : FnScope nm_Reader_read_triples ["self"] (defScope s_Reader_read_triples) := ⟨rfl, rfl, rfl, by decide +kernel, rfl, by decide +kernel, by decide +kernel⟩
theorem st_Reader_read_triples (v0 : V) : start nm_Reader_read_triples [v0] = [some v0, none] := rfl
abbrev s_Reader_read_packet : Stmt := inClass (topS 8) 13
abbrev nm_Reader_read_packet : List Str := ["self"]
theorem sc_Reader_read_packet : FnScope nm_Reader_read_packet ["self"] (defScope s_Reader_read_packet) := ⟨rfl, rfl, rfl, by decide +kernel, rfl, by decide +kernel, by decide +kernel⟩
theorem st_Reader_read_packet (v0 : V) : start nm_Reader_read_packet [v0] = [some v0] := rfl
abbrev s_write_number : Stmt := topS 10
abbrev nm_write_number : List Str := ["number", "data"]
theorem sc_write_number : FnScope nm_write_number ["number"] (defScope s_write_number) := ⟨rfl, rfl, rfl, by decide +kernel, rfl, by decide +kernel, by decide +kernel⟩
theorem st_write_number (v0 : V) : start nm_write_number [v0] = [some v0, none] := rfl
abbrev s_write_list : Stmt := topS 11
abbrev nm_write_list : List Str := ["items", "data", "item"]
theorem sc_write_list : FnScope nm_write_list ["items"] (defScope s_write_list) := ⟨rfl, rfl, rfl, by decide +kernel, rfl, by decide +kernel, by decide +kernel⟩
theorem st_write_list (v0 : V) : start nm_write_list [v0] = [some v0, none, none] := rfl
abbrev s_write_string : Stmt := topS 12
abbrev nm_write_string : List Str := ["text", "character"]
theorem sc_write_string : FnScope nm_write_string ["text"] (defScope s_write_string) := ⟨rfl, rfl, rfl, by decide +kernel, rfl, by decide +kernel, by decide +kernel⟩
theorem st_write_string (v0 : V) : start nm_write_string [v0] = [some v0, none] := rfl
abbrev s_write_mark : Stmt := topS 13
abbrev nm_write_mark : List Str := ["mark"]
theorem sc_write_mark : FnScope nm_write_mark ["mark"] (defScope s_write_mark) := ⟨rfl, rfl, rfl, by decide +kernel, rfl, by decide +kernel, by decide +kernel⟩
theorem st_write_mark (v0 : V) : start nm_write_mark [v0] = [some v0] := rfl
abbrev s_write_deed : Stmt := topS 14
abbrev nm_write_deed : List Str := ["deed", "_", "module", "removed", "behind", "number", "text", "data", "mark"]
theorem sc_write_deed : FnScope nm_write_deed ["deed"] (defScope s_write_deed) := ⟨rfl, rfl, rfl, by decide +kernel, rfl, by decide +kernel, by decide +kernel⟩
theorem st_write_deed (v0 : V) : start nm_write_deed [v0] = [some v0, none, none, none, none, none, none, none, none] := rfl
abbrev s_write_triples : Stmt := topS 15
abbrev nm_write_triples : List Str := ["triples", "written", "replica", "place", "deed"]
theorem sc_write_triples : FnScope nm_write_triples ["triples"] (defScope s_write_triples) := ⟨rfl, rfl, rfl, by decide +kernel, rfl, by decide +kernel, by decide +kernel⟩
theorem st_write_triples (v0 : V) : start nm_write_triples [v0] = [some v0, none, none, none, none] := rfl
abbrev s_write_packet : Stmt := topS 16
abbrev nm_write_packet : List Str := ["packet"]
theorem sc_write_packet : FnScope nm_write_packet ["packet"] (defScope s_write_packet) := ⟨rfl, rfl, rfl, by decide +kernel, rfl, by decide +kernel, by decide +kernel⟩
theorem st_write_packet (v0 : V) : start nm_write_packet [v0] = [some v0] := rfl
abbrev s__law_next : Stmt := topS 18
abbrev nm__law_next : List Str := ["state", "limit", "cell", "value"]
theorem sc__law_next : FnScope nm__law_next ["state", "limit"] (defScope s__law_next) := ⟨rfl, rfl, rfl, by decide +kernel, rfl, by decide +kernel, by decide +kernel⟩
theorem st__law_next (v0 v1 : V) : start nm__law_next [v0, v1] = [some v0, some v1, none, none] := rfl
abbrev s__law_same : Stmt := topS 19
abbrev nm__law_same : List Str := ["actual", "expected", "k"]
theorem sc__law_same : FnScope nm__law_same ["actual", "expected"] (defScope s__law_same) := ⟨rfl, rfl, rfl, by decide +kernel, rfl, by decide +kernel, by decide +kernel⟩
theorem st__law_same (v0 v1 : V) : start nm__law_same [v0, v1] = [some v0, some v1, none] := rfl
abbrev s__law_number : Stmt := topS 20
abbrev nm__law_number : List Str := ["number", "data"]
theorem sc__law_number : FnScope nm__law_number ["number"] (defScope s__law_number) := ⟨rfl, rfl, rfl, by decide +kernel, rfl, by decide +kernel, by decide +kernel⟩
theorem st__law_number (v0 : V) : start nm__law_number [v0] = [some v0, none] := rfl
abbrev s__law_text : Stmt := topS 21
abbrev nm__law_text : List Str := ["text", "data", "character"]
theorem sc__law_text : FnScope nm__law_text ["text"] (defScope s__law_text) := ⟨rfl, rfl, rfl, by decide +kernel, rfl, by decide +kernel, by decide +kernel⟩
theorem st__law_text (v0 : V) : start nm__law_text [v0] = [some v0, none, none] := rfl
abbrev s__law_mark : Stmt := topS 22
abbrev nm__law_mark : List Str := ["mark"]
theorem sc__law_mark : FnScope nm__law_mark ["mark"] (defScope s__law_mark) := ⟨rfl, rfl, rfl, by decide +kernel, rfl, by decide +kernel, by decide +kernel⟩
theorem st__law_mark (v0 : V) : start nm__law_mark [v0] = [some v0] := rfl
abbrev s__law_deed : Stmt := topS 23
abbrev nm__law_deed : List Str := ["deed", "data", "mark"]
theorem sc__law_deed : FnScope nm__law_deed ["deed"] (defScope s__law_deed) := ⟨rfl, rfl, rfl, by decide +kernel, rfl, by decide +kernel, by decide +kernel⟩
theorem st__law_deed (v0 : V) : start nm__law_deed [v0] = [some v0, none, none] := rfl
abbrev s__law_triples : Stmt := topS 24
abbrev nm__law_triples : List Str := ["triples", "data", "replica", "place", "deed"]
theorem sc__law_triples : FnScope nm__law_triples ["triples"] (defScope s__law_triples) := ⟨rfl, rfl, rfl, by decide +kernel, rfl, by decide +kernel, by decide +kernel⟩
theorem st__law_triples (v0 : V) : start nm__law_triples [v0] = [some v0, none, none, none, none] := rfl
abbrev s__law_read_number : Stmt := topS 25
abbrev nm__law_read_number : List Str := ["data", "at", "total", "factor", "k"]
theorem sc__law_read_number : FnScope nm__law_read_number ["data", "at"] (defScope s__law_read_number) := ⟨rfl, rfl, rfl, by decide +kernel, rfl, by decide +kernel, by decide +kernel⟩
theorem st__law_read_number (v0 v1 : V) : start nm__law_read_number [v0, v1] = [some v0, some v1, none, none, none] := rfl
abbrev s__law_sign : Stmt := topS 26
abbrev nm__law_sign : List Str := ["code", "first", "rest"]
theorem sc__law_sign : FnScope nm__law_sign ["code"] (defScope s__law_sign) := ⟨rfl, rfl, rfl, by decide +kernel, rfl, by decide +kernel, by decide +kernel⟩
theorem st__law_sign (v0 : V) : start nm__law_sign [v0] = [some v0, none, none] := rfl
abbrev s__law_read_text : Stmt := topS 27
abbrev nm__law_read_text : List Str := ["data", "at", "found", "count", "text", "k"]
theorem sc__law_read_text : FnScope nm__law_read_text ["data", "at"] (defScope s__law_read_text) := ⟨rfl, rfl, rfl, by decide +kernel, rfl, by decide +kernel, by decide +kernel⟩
theorem st__law_read_text (v0 v1 : V) : start nm__law_read_text [v0, v1] = [some v0, some v1, none, none, none, none] := rfl
abbrev s__law_read_mark : Stmt := topS 28
abbrev nm__law_read_mark : List Str := ["data", "at", "first", "second"]
theorem sc__law_read_mark : FnScope nm__law_read_mark ["data", "at"] (defScope s__law_read_mark) := ⟨rfl, rfl, rfl, by decide +kernel, rfl, by decide +kernel, by decide +kernel⟩
theorem st__law_read_mark (v0 v1 : V) : start nm__law_read_mark [v0, v1] = [some v0, some v1, none, none] := rfl
abbrev s__law_read_deed : Stmt := topS 29
abbrev nm__law_read_deed : List Str := ["data", "at", "found", "module", "count", "marks", "k", "behind", "number", "text"]
theorem sc__law_read_deed : FnScope nm__law_read_deed ["data", "at"] (defScope s__law_read_deed) := ⟨rfl, rfl, rfl, by decide +kernel, rfl, by decide +kernel, by decide +kernel⟩
theorem st__law_read_deed (v0 v1 : V) : start nm__law_read_deed [v0, v1] = [some v0, some v1, none, none, none, none, none, none, none, none] := rfl
abbrev s__law_read_triples : Stmt := topS 30
abbrev nm__law_read_triples : List Str := ["data", "at", "count", "triples", "k", "pair", "deed"]
theorem sc__law_read_triples : FnScope nm__law_read_triples ["data", "at"] (defScope s__law_read_triples) := ⟨rfl, rfl, rfl, by decide +kernel, rfl, by decide +kernel, by decide +kernel⟩
theorem st__law_read_triples (v0 v1 : V) : start nm__law_read_triples [v0, v1] = [some v0, some v1, none, none, none, none, none] := rfl
abbrev s__law_read_packet : Stmt := topS 31
abbrev nm__law_read_packet : List Str := ["data", "at"]
theorem sc__law_read_packet : FnScope nm__law_read_packet ["data", "at"] (defScope s__law_read_packet) := ⟨rfl, rfl, rfl, by decide +kernel, rfl, by decide +kernel, by decide +kernel⟩
theorem st__law_read_packet (v0 v1 : V) : start nm__law_read_packet [v0, v1] = [some v0, some v1] := rfl
abbrev s__law_drawn_number : Stmt := topS 32
abbrev nm__law_drawn_number : List Str := ["state"]
theorem sc__law_drawn_number : FnScope nm__law_drawn_number ["state"] (defScope s__law_drawn_number) := ⟨rfl, rfl, rfl, by decide +kernel, rfl, by decide +kernel, by decide +kernel⟩
theorem st__law_drawn_number (v0 : V) : start nm__law_drawn_number [v0] = [some v0] := rfl
abbrev s__law_drawn_text : Stmt := topS 33
abbrev nm__law_drawn_text : List Str := ["state", "letters", "k"]
theorem sc__law_drawn_text : FnScope nm__law_drawn_text ["state"] (defScope s__law_drawn_text) := ⟨rfl, rfl, rfl, by decide +kernel, rfl, by decide +kernel, by decide +kernel⟩
theorem st__law_drawn_text (v0 : V) : start nm__law_drawn_text [v0] = [some v0, none, none] := rfl
abbrev s__law_drawn_deed : Stmt := topS 34
abbrev nm__law_drawn_deed : List Str := ["state", "marks", "k", "behind"]
theorem sc__law_drawn_deed : FnScope nm__law_drawn_deed ["state"] (defScope s__law_drawn_deed) := ⟨rfl, rfl, rfl, by decide +kernel, rfl, by decide +kernel, by decide +kernel⟩
theorem st__law_drawn_deed (v0 : V) : start nm__law_drawn_deed [v0] = [some v0, none, none, none] := rfl
abbrev s__law_spoilt : Stmt := topS 35
abbrev nm__law_spoilt : List Str := ["state", "data", "place", "byte", "pick", "k"]
theorem sc__law_spoilt : FnScope nm__law_spoilt ["state", "data"] (defScope s__law_spoilt) := ⟨rfl, rfl, rfl, by decide +kernel, rfl, by decide +kernel, by decide +kernel⟩
theorem st__law_spoilt (v0 v1 : V) : start nm__law_spoilt [v0, v1] = [some v0, some v1, none, none, none, none] := rfl
abbrev s__law_told : Stmt := topS 36
abbrev nm__law_told : List Str := ["kind", "data", "reader", "found", "at", "ended"]
theorem sc__law_told : FnScope nm__law_told ["kind", "data"] (defScope s__law_told) := ⟨rfl, rfl, rfl, by decide +kernel, rfl, by decide +kernel, by decide +kernel⟩
theorem st__law_told (v0 v1 : V) : start nm__law_told [v0, v1] = [some v0, some v1, none, none, none, none] := rfl
abbrev s__law_own : Stmt := topS 37
abbrev nm__law_own : List Str := ["kind", "data"]
theorem sc__law_own : FnScope nm__law_own ["kind", "data"] (defScope s__law_own) := ⟨rfl, rfl, rfl, by decide +kernel, rfl, by decide +kernel, by decide +kernel⟩
theorem st__law_own (v0 v1 : V) : start nm__law_own [v0, v1] = [some v0, some v1] := rfl
abbrev s__law_in_a_row : Stmt := topS 38
abbrev nm__law_in_a_row : List Str := ["things", "written", "data", "part", "reader", "told"]
theorem sc__law_in_a_row : FnScope nm__law_in_a_row ["things", "written"] (defScope s__law_in_a_row) := ⟨rfl, rfl, rfl, by decide +kernel, rfl, by decide +kernel, by decide +kernel⟩
theorem st__law_in_a_row (v0 v1 : V) : start nm__law_in_a_row [v0, v1] = [some v0, some v1, none, none, none, none] := rfl
abbrev s_law : Stmt := topS 39
abbrev nm_law : List Str := ["script", "state", "k", "number", "text", "deed", "triples", "j", "written", "own", "things", "long", "kind", "data"]
theorem sc_law : FnScope nm_law ["script"] (defScope s_law) := ⟨rfl, rfl, rfl, by decide +kernel, rfl, by decide +kernel, by decide +kernel⟩
theorem st_law (v0 : V) : start nm_law [v0] = [some v0, none, none, none, none, none, none, none, none, none, none, none, none, none] := rfl
structure Adr where
  f__wall : Addr
  d__wall : FuncData
  f_Reader___init__ : Addr
  d_Reader___init__ : FuncData
  f_Reader_read_byte : Addr
  d_Reader_read_byte : FuncData
  f_Reader_read_choice : Addr
  d_Reader_read_choice : FuncData
  f_Reader_end : Addr
  d_Reader_end : FuncData
  f_Reader_read_number : Addr
  d_Reader_read_number : FuncData
  f_Reader_read_count : Addr
  d_Reader_read_count : FuncData
  f_Reader_read_character : Addr
  d_Reader_read_character : FuncData
  f_Reader_read_string : Addr
  d_Reader_read_string : FuncData
  f_Reader_read_mark : Addr
  d_Reader_read_mark : FuncData
  f_Reader_read_deed : Addr
  d_Reader_read_deed : FuncData
  f_Reader_read_deeds : Addr
  d_Reader_read_deeds : FuncData
  f_Reader_read_triple : Addr
  d_Reader_read_triple : FuncData
  f_Reader_read_triples : Addr
  d_Reader_read_triples : FuncData
  f_Reader_read_packet : Addr
  d_Reader_read_packet : FuncData
  f_write_number : Addr
  d_write_number : FuncData
  f_write_list : Addr
  d_write_list : FuncData
  f_write_string : Addr
  d_write_string : FuncData
  f_write_mark : Addr
  d_write_mark : FuncData
  f_write_deed : Addr
  d_write_deed : FuncData
  f_write_triples : Addr
  d_write_triples : FuncData
  f_write_packet : Addr
  d_write_packet : FuncData
  f__law_next : Addr
  d__law_next : FuncData
  f__law_same : Addr
  d__law_same : FuncData
  f__law_number : Addr
  d__law_number : FuncData
  f__law_text : Addr
  d__law_text : FuncData
  f__law_mark : Addr
  d__law_mark : FuncData
  f__law_deed : Addr
  d__law_deed : FuncData
  f__law_triples : Addr
  d__law_triples : FuncData
  f__law_read_number : Addr
  d__law_read_number : FuncData
  f__law_sign : Addr
  d__law_sign : FuncData
  f__law_read_text : Addr
  d__law_read_text : FuncData
  f__law_read_mark : Addr
  d__law_read_mark : FuncData
  f__law_read_deed : Addr
  d__law_read_deed : FuncData
  f__law_read_triples : Addr
  d__law_read_triples : FuncData
  f__law_read_packet : Addr
  d__law_read_packet : FuncData
  f__law_drawn_number : Addr
  d__law_drawn_number : FuncData
  f__law_drawn_text : Addr
  d__law_drawn_text : FuncData
  f__law_drawn_deed : Addr
  d__law_drawn_deed : FuncData
  f__law_spoilt : Addr
  d__law_spoilt : FuncData
  f__law_told : Addr
  d__law_told : FuncData
  f__law_own : Addr
  d__law_own : FuncData
  f__law_in_a_row : Addr
  d__law_in_a_row : FuncData
  f_law : Addr
  d_law : FuncData
  C_PlanwholeError : Addr
  C_DamagedPacket : Addr
  C_Reader : Addr
  v_BEFORE_PERCENT : Value
  v_AFTER_PERCENT : Value
  v_NUMBER_BYTES : Value
structure Env (K : PySem.W.Frag) (mg : Str → Option Value) (A : Adr) : Prop where
  F__wall : Fun K "_wall" "_wall" s__wall A.f__wall A.d__wall
  b__wall : Binds K A.d__wall ["k"] []
  m__wall : mg "_wall" = some (.ref A.f__wall)
  k__wall : PySem.W.keepIn K (.ref A.f__wall) = true
  F_Reader___init__ : Fun K "__init__" "Reader.__init__" s_Reader___init__ A.f_Reader___init__ A.d_Reader___init__
  b_Reader___init__ : Binds K A.d_Reader___init__ ["self", "data"] []
  h_Reader___init__ : Meth K A.C_Reader "__init__" A.f_Reader___init__
  F_Reader_read_byte : Fun K "read_byte" "Reader.read_byte" s_Reader_read_byte A.f_Reader_read_byte A.d_Reader_read_byte
  b_Reader_read_byte : Binds K A.d_Reader_read_byte ["self"] []
  h_Reader_read_byte : Meth K A.C_Reader "read_byte" A.f_Reader_read_byte
  F_Reader_read_choice : Fun K "read_choice" "Reader.read_choice" s_Reader_read_choice A.f_Reader_read_choice A.d_Reader_read_choice
  b_Reader_read_choice : Binds K A.d_Reader_read_choice ["self", "count"] []
  h_Reader_read_choice : Meth K A.C_Reader "read_choice" A.f_Reader_read_choice
  F_Reader_end : Fun K "end" "Reader.end" s_Reader_end A.f_Reader_end A.d_Reader_end
  b_Reader_end : Binds K A.d_Reader_end ["self"] []
  h_Reader_end : Meth K A.C_Reader "end" A.f_Reader_end
  F_Reader_read_number : Fun K "read_number" "Reader.read_number" s_Reader_read_number A.f_Reader_read_number A.d_Reader_read_number
  b_Reader_read_number : Binds K A.d_Reader_read_number ["self"] []
  h_Reader_read_number : Meth K A.C_Reader "read_number" A.f_Reader_read_number
  F_Reader_read_count : Fun K "read_count" "Reader.read_count" s_Reader_read_count A.f_Reader_read_count A.d_Reader_read_count
  b_Reader_read_count : Binds K A.d_Reader_read_count ["self"] []
  h_Reader_read_count : Meth K A.C_Reader "read_count" A.f_Reader_read_count
  F_Reader_read_character : Fun K "read_character" "Reader.read_character" s_Reader_read_character A.f_Reader_read_character A.d_Reader_read_character
  b_Reader_read_character : Binds K A.d_Reader_read_character ["self"] []
  h_Reader_read_character : Meth K A.C_Reader "read_character" A.f_Reader_read_character
  F_Reader_read_string : Fun K "read_string" "Reader.read_string" s_Reader_read_string A.f_Reader_read_string A.d_Reader_read_string
  b_Reader_read_string : Binds K A.d_Reader_read_string ["self"] []
  h_Reader_read_string : Meth K A.C_Reader "read_string" A.f_Reader_read_string
  F_Reader_read_mark : Fun K "read_mark" "Reader.read_mark" s_Reader_read_mark A.f_Reader_read_mark A.d_Reader_read_mark
  b_Reader_read_mark : Binds K A.d_Reader_read_mark ["self"] []
  h_Reader_read_mark : Meth K A.C_Reader "read_mark" A.f_Reader_read_mark
  F_Reader_read_deed : Fun K "read_deed" "Reader.read_deed" s_Reader_read_deed A.f_Reader_read_deed A.d_Reader_read_deed
  b_Reader_read_deed : Binds K A.d_Reader_read_deed ["self"] []
  h_Reader_read_deed : Meth K A.C_Reader "read_deed" A.f_Reader_read_deed
  F_Reader_read_deeds : Fun K "read_deeds" "Reader.read_deeds" s_Reader_read_deeds A.f_Reader_read_deeds A.d_Reader_read_deeds
  b_Reader_read_deeds : Binds K A.d_Reader_read_deeds ["self"] []
  h_Reader_read_deeds : Meth K A.C_Reader "read_deeds" A.f_Reader_read_deeds
  F_Reader_read_triple : Fun K "read_triple" "Reader.read_triple" s_Reader_read_triple A.f_Reader_read_triple A.d_Reader_read_triple
  b_Reader_read_triple : Binds K A.d_Reader_read_triple ["self"] []
  h_Reader_read_triple : Meth K A.C_Reader "read_triple" A.f_Reader_read_triple
  F_Reader_read_triples : Fun K "read_triples" "Reader.read_triples" s_Reader_read_triples A.f_Reader_read_triples A.d_Reader_read_triples
  b_Reader_read_triples : Binds K A.d_Reader_read_triples ["self"] []
  h_Reader_read_triples : Meth K A.C_Reader "read_triples" A.f_Reader_read_triples
  F_Reader_read_packet : Fun K "read_packet" "Reader.read_packet" s_Reader_read_packet A.f_Reader_read_packet A.d_Reader_read_packet
  b_Reader_read_packet : Binds K A.d_Reader_read_packet ["self"] []
  h_Reader_read_packet : Meth K A.C_Reader "read_packet" A.f_Reader_read_packet
  F_write_number : Fun K "write_number" "write_number" s_write_number A.f_write_number A.d_write_number
  b_write_number : Binds K A.d_write_number ["number"] []
  m_write_number : mg "write_number" = some (.ref A.f_write_number)
  k_write_number : PySem.W.keepIn K (.ref A.f_write_number) = true
  F_write_list : Fun K "write_list" "write_list" s_write_list A.f_write_list A.d_write_list
  b_write_list : Binds K A.d_write_list ["items"] []
  m_write_list : mg "write_list" = some (.ref A.f_write_list)
  k_write_list : PySem.W.keepIn K (.ref A.f_write_list) = true
  F_write_string : Fun K "write_string" "write_string" s_write_string A.f_write_string A.d_write_string
  b_write_string : Binds K A.d_write_string ["text"] []
  m_write_string : mg "write_string" = some (.ref A.f_write_string)
  k_write_string : PySem.W.keepIn K (.ref A.f_write_string) = true
  F_write_mark : Fun K "write_mark" "write_mark" s_write_mark A.f_write_mark A.d_write_mark
  b_write_mark : Binds K A.d_write_mark ["mark"] []
  m_write_mark : mg "write_mark" = some (.ref A.f_write_mark)
  k_write_mark : PySem.W.keepIn K (.ref A.f_write_mark) = true
  F_write_deed : Fun K "write_deed" "write_deed" s_write_deed A.f_write_deed A.d_write_deed
  b_write_deed : Binds K A.d_write_deed ["deed"] []
  m_write_deed : mg "write_deed" = some (.ref A.f_write_deed)
  k_write_deed : PySem.W.keepIn K (.ref A.f_write_deed) = true
  F_write_triples : Fun K "write_triples" "write_triples" s_write_triples A.f_write_triples A.d_write_triples
  b_write_triples : Binds K A.d_write_triples ["triples"] []
  m_write_triples : mg "write_triples" = some (.ref A.f_write_triples)
  k_write_triples : PySem.W.keepIn K (.ref A.f_write_triples) = true
  F_write_packet : Fun K "write_packet" "write_packet" s_write_packet A.f_write_packet A.d_write_packet
  b_write_packet : Binds K A.d_write_packet ["packet"] []
  m_write_packet : mg "write_packet" = some (.ref A.f_write_packet)
  k_write_packet : PySem.W.keepIn K (.ref A.f_write_packet) = true
  F__law_next : Fun K "_law_next" "_law_next" s__law_next A.f__law_next A.d__law_next
  b__law_next : Binds K A.d__law_next ["state", "limit"] []
  m__law_next : mg "_law_next" = some (.ref A.f__law_next)
  k__law_next : PySem.W.keepIn K (.ref A.f__law_next) = true
  F__law_same : Fun K "_law_same" "_law_same" s__law_same A.f__law_same A.d__law_same
  b__law_same : Binds K A.d__law_same ["actual", "expected"] []
  m__law_same : mg "_law_same" = some (.ref A.f__law_same)
  k__law_same : PySem.W.keepIn K (.ref A.f__law_same) = true
  F__law_number : Fun K "_law_number" "_law_number" s__law_number A.f__law_number A.d__law_number
  b__law_number : Binds K A.d__law_number ["number"] []
  m__law_number : mg "_law_number" = some (.ref A.f__law_number)
  k__law_number : PySem.W.keepIn K (.ref A.f__law_number) = true
  F__law_text : Fun K "_law_text" "_law_text" s__law_text A.f__law_text A.d__law_text
  b__law_text : Binds K A.d__law_text ["text"] []
  m__law_text : mg "_law_text" = some (.ref A.f__law_text)
  k__law_text : PySem.W.keepIn K (.ref A.f__law_text) = true
  F__law_mark : Fun K "_law_mark" "_law_mark" s__law_mark A.f__law_mark A.d__law_mark
  b__law_mark : Binds K A.d__law_mark ["mark"] []
  m__law_mark : mg "_law_mark" = some (.ref A.f__law_mark)
  k__law_mark : PySem.W.keepIn K (.ref A.f__law_mark) = true
  F__law_deed : Fun K "_law_deed" "_law_deed" s__law_deed A.f__law_deed A.d__law_deed
  b__law_deed : Binds K A.d__law_deed ["deed"] []
  m__law_deed : mg "_law_deed" = some (.ref A.f__law_deed)
  k__law_deed : PySem.W.keepIn K (.ref A.f__law_deed) = true
  F__law_triples : Fun K "_law_triples" "_law_triples" s__law_triples A.f__law_triples A.d__law_triples
  b__law_triples : Binds K A.d__law_triples ["triples"] []
  m__law_triples : mg "_law_triples" = some (.ref A.f__law_triples)
  k__law_triples : PySem.W.keepIn K (.ref A.f__law_triples) = true
  F__law_read_number : Fun K "_law_read_number" "_law_read_number" s__law_read_number A.f__law_read_number A.d__law_read_number
  b__law_read_number : Binds K A.d__law_read_number ["data", "at"] []
  m__law_read_number : mg "_law_read_number" = some (.ref A.f__law_read_number)
  k__law_read_number : PySem.W.keepIn K (.ref A.f__law_read_number) = true
  F__law_sign : Fun K "_law_sign" "_law_sign" s__law_sign A.f__law_sign A.d__law_sign
  b__law_sign : Binds K A.d__law_sign ["code"] []
  m__law_sign : mg "_law_sign" = some (.ref A.f__law_sign)
  k__law_sign : PySem.W.keepIn K (.ref A.f__law_sign) = true
  F__law_read_text : Fun K "_law_read_text" "_law_read_text" s__law_read_text A.f__law_read_text A.d__law_read_text
  b__law_read_text : Binds K A.d__law_read_text ["data", "at"] []
  m__law_read_text : mg "_law_read_text" = some (.ref A.f__law_read_text)
  k__law_read_text : PySem.W.keepIn K (.ref A.f__law_read_text) = true
  F__law_read_mark : Fun K "_law_read_mark" "_law_read_mark" s__law_read_mark A.f__law_read_mark A.d__law_read_mark
  b__law_read_mark : Binds K A.d__law_read_mark ["data", "at"] []
  m__law_read_mark : mg "_law_read_mark" = some (.ref A.f__law_read_mark)
  k__law_read_mark : PySem.W.keepIn K (.ref A.f__law_read_mark) = true
  F__law_read_deed : Fun K "_law_read_deed" "_law_read_deed" s__law_read_deed A.f__law_read_deed A.d__law_read_deed
  b__law_read_deed : Binds K A.d__law_read_deed ["data", "at"] []
  m__law_read_deed : mg "_law_read_deed" = some (.ref A.f__law_read_deed)
  k__law_read_deed : PySem.W.keepIn K (.ref A.f__law_read_deed) = true
  F__law_read_triples : Fun K "_law_read_triples" "_law_read_triples" s__law_read_triples A.f__law_read_triples A.d__law_read_triples
  b__law_read_triples : Binds K A.d__law_read_triples ["data", "at"] []
  m__law_read_triples : mg "_law_read_triples" = some (.ref A.f__law_read_triples)
  k__law_read_triples : PySem.W.keepIn K (.ref A.f__law_read_triples) = true
  F__law_read_packet : Fun K "_law_read_packet" "_law_read_packet" s__law_read_packet A.f__law_read_packet A.d__law_read_packet
  b__law_read_packet : Binds K A.d__law_read_packet ["data", "at"] []
  m__law_read_packet : mg "_law_read_packet" = some (.ref A.f__law_read_packet)
  k__law_read_packet : PySem.W.keepIn K (.ref A.f__law_read_packet) = true
  F__law_drawn_number : Fun K "_law_drawn_number" "_law_drawn_number" s__law_drawn_number A.f__law_drawn_number A.d__law_drawn_number
  b__law_drawn_number : Binds K A.d__law_drawn_number ["state"] []
  m__law_drawn_number : mg "_law_drawn_number" = some (.ref A.f__law_drawn_number)
  k__law_drawn_number : PySem.W.keepIn K (.ref A.f__law_drawn_number) = true
  F__law_drawn_text : Fun K "_law_drawn_text" "_law_drawn_text" s__law_drawn_text A.f__law_drawn_text A.d__law_drawn_text
  b__law_drawn_text : Binds K A.d__law_drawn_text ["state"] []
  m__law_drawn_text : mg "_law_drawn_text" = some (.ref A.f__law_drawn_text)
  k__law_drawn_text : PySem.W.keepIn K (.ref A.f__law_drawn_text) = true
  F__law_drawn_deed : Fun K "_law_drawn_deed" "_law_drawn_deed" s__law_drawn_deed A.f__law_drawn_deed A.d__law_drawn_deed
  b__law_drawn_deed : Binds K A.d__law_drawn_deed ["state"] []
  m__law_drawn_deed : mg "_law_drawn_deed" = some (.ref A.f__law_drawn_deed)
  k__law_drawn_deed : PySem.W.keepIn K (.ref A.f__law_drawn_deed) = true
  F__law_spoilt : Fun K "_law_spoilt" "_law_spoilt" s__law_spoilt A.f__law_spoilt A.d__law_spoilt
  b__law_spoilt : Binds K A.d__law_spoilt ["state", "data"] []
  m__law_spoilt : mg "_law_spoilt" = some (.ref A.f__law_spoilt)
  k__law_spoilt : PySem.W.keepIn K (.ref A.f__law_spoilt) = true
  F__law_told : Fun K "_law_told" "_law_told" s__law_told A.f__law_told A.d__law_told
  b__law_told : Binds K A.d__law_told ["kind", "data"] []
  m__law_told : mg "_law_told" = some (.ref A.f__law_told)
  k__law_told : PySem.W.keepIn K (.ref A.f__law_told) = true
  F__law_own : Fun K "_law_own" "_law_own" s__law_own A.f__law_own A.d__law_own
  b__law_own : Binds K A.d__law_own ["kind", "data"] []
  m__law_own : mg "_law_own" = some (.ref A.f__law_own)
  k__law_own : PySem.W.keepIn K (.ref A.f__law_own) = true
  F__law_in_a_row : Fun K "_law_in_a_row" "_law_in_a_row" s__law_in_a_row A.f__law_in_a_row A.d__law_in_a_row
  b__law_in_a_row : Binds K A.d__law_in_a_row ["things", "written"] []
  m__law_in_a_row : mg "_law_in_a_row" = some (.ref A.f__law_in_a_row)
  k__law_in_a_row : PySem.W.keepIn K (.ref A.f__law_in_a_row) = true
  F_law : Fun K "law" "law" s_law A.f_law A.d_law
  b_law : Binds K A.d_law ["script"] []
  m_law : mg "law" = some (.ref A.f_law)
  k_law : PySem.W.keepIn K (.ref A.f_law) = true
  m_Reader : mg "Reader" = some (.ref A.C_Reader)
  c_Reader : Cls K A.C_Reader
  M_Reader : Mk K A.C_Reader A.f_Reader___init__
  x_Reader_data : NoAttr K A.C_Reader "data"
  x_Reader_at : NoAttr K A.C_Reader "at"
  m_PlanwholeError : mg "PlanwholeError" = some (.ref A.C_PlanwholeError)
  xx_PlanwholeError : PySem.W.excIn K A.C_PlanwholeError [.type "ValueError", .type "Exception", .type "BaseException", .type "object"] "ValueError.__new__" = true
  kk_PlanwholeError : PySem.W.keepIn K (.ref A.C_PlanwholeError) = true
  bb_PlanwholeError : PySem.W.subIn K (.ref A.C_PlanwholeError) (.type "BaseException") = some true
  tt_PlanwholeError : PySem.W.typeIn K (.ref A.C_PlanwholeError) = some (.type "type")
  ii_PlanwholeError : PySem.W.isClsIn K A.C_PlanwholeError = true
  sub_PlanwholeError_PlanwholeError : PySem.W.subIn K (.ref A.C_PlanwholeError) (.ref A.C_PlanwholeError) = some true
  m_DamagedPacket : mg "DamagedPacket" = some (.ref A.C_DamagedPacket)
  xx_DamagedPacket : PySem.W.excIn K A.C_DamagedPacket [.type "ValueError", .type "Exception", .type "BaseException", .type "object"] "ValueError.__new__" = true
  kk_DamagedPacket : PySem.W.keepIn K (.ref A.C_DamagedPacket) = true
  bb_DamagedPacket : PySem.W.subIn K (.ref A.C_DamagedPacket) (.type "BaseException") = some true
  tt_DamagedPacket : PySem.W.typeIn K (.ref A.C_DamagedPacket) = some (.type "type")
  ii_DamagedPacket : PySem.W.isClsIn K A.C_DamagedPacket = true
  sub_DamagedPacket_DamagedPacket : PySem.W.subIn K (.ref A.C_DamagedPacket) (.ref A.C_DamagedPacket) = some true
  m_BEFORE_PERCENT : mg "BEFORE_PERCENT" = some A.v_BEFORE_PERCENT
  r_BEFORE_PERCENT : RelV (V.str " !\"#$") A.v_BEFORE_PERCENT
  m_AFTER_PERCENT : mg "AFTER_PERCENT" = some A.v_AFTER_PERCENT
  r_AFTER_PERCENT : RelV (V.str "&'()*+,-./0123456789:;<=>?@ABCDEFGHIJKLMNOPQRSTUVWXYZ[\\]^_`abcdefghijklmnopqrstuvwxyz{|}~") A.v_AFTER_PERCENT
  m_NUMBER_BYTES : mg "NUMBER_BYTES" = some A.v_NUMBER_BYTES
  r_NUMBER_BYTES : RelV (V.int 60) A.v_NUMBER_BYTES
  n_bool : mg "bool" = none
  n_int : mg "int" = none
  n_isinstance : mg "isinstance" = none
  n_len : mg "len" = none
  n_list : mg "list" = none
  n_ord : mg "ord" = none
  n_range : mg "range" = none
  n_str : mg "str" = none
  n_tuple : mg "tuple" = none
end My

end
section
set_option maxHeartbeats 4000000
local macro_rules | `(tactic| walk_at "k") => `(tactic| first
  | assumption
  | exact W.Keep.trans (by assumption) (by assumption)
  | exact And.intro (by grind [W.Keep, W.Kp]) (by grind [W.Keep, W.Kt])
  | grind [W.Keep, W.Kp])
local macro_rules | `(tactic| walk_at "f") => `(tactic| first
  | assumption
  | exact L2.SqL.of (by assumption)
  | exact L2.SqT.of (by assumption)
  | exact L2.SqL.of L2.upd_same
  | exact L2.SqT.of L2.upd_same
  | exact L2.upd_same
  | exact W.carryL (by assumption) (by assumption)
  | exact W.carryL (by assumption) (by walk_at "k")
  | exact W.carryT (by assumption) (by walk_at "k")
  | exact W.carry (by assumption) (by grind [W.Keep, W.Kp])
  | exact L2.SqL.of (W.carry (by assumption) (by grind [W.Keep, W.Kp]))
  | exact L2.SqT.of (W.carry (by assumption) (by grind [W.Keep, W.Kp])))
local macro_rules | `(tactic| walk_at "a") => `(tactic| first
  | assumption
  | rfl)
local macro_rules | `(tactic| walk_at "n") => `(tactic| first
  | assumption
  | exact Nat.zero_le _
  | decide
  | (simp only [List.length_cons, List.length_nil]; decide)
  | omega
  | (simp only [PySem.sizeLine_eq]; omega)
  | (simp only [List.length_map, List.length_append, List.length_cons, List.length_nil, PySem.sizeLine_eq]; omega)
  | (simp only [List.length_map, List.length_append, List.length_cons, List.length_nil, List.length_take, List.length_drop, PySem.sizeLine_eq]; omega)
  | (simp only [List.length_map, List.length_append, List.length_cons, List.length_nil, PySem.sizeLine_eq] at *; omega))
local macro_rules | `(tactic| walk_at "c") => `(tactic| first
  | assumption
  | decide
  | exact And.intro (by decide) (by decide)
  | exact Or.inr (And.intro (by decide) (by decide))
  | exact Or.inl (And.intro (by decide) (by decide))
  | exact And.intro (by decide) (And.intro (by decide) (by decide))
  | exact (show (0 : Int) < _ by decide)
  | exact And.intro (by omega) (by omega)
  | exact Or.inl (And.intro (by omega) (by omega))
  | exact Or.inr (And.intro (by omega) (by omega))
  | exact (show (0 : Int) < _ by omega))
local macro_rules | `(tactic| walk_at "v") => `(tactic| with_reducible first
  | refine W.v0 ?_ | refine W.v1 ?_ | refine W.v2 ?_ | refine W.v3 ?_ | refine W.v4 ?_ | refine W.v5 ?_ | refine W.v6 ?_ | refine W.v7 ?_ | refine W.v8 ?_
  | refine W.v9 ?_ | refine W.v10 ?_ | refine W.v11 ?_ | refine W.v12 ?_ | refine W.v13 ?_ | refine W.v14 ?_ | refine W.v15 ?_ | refine W.v16 ?_ | refine W.v17 ?_
  | refine W.g0 ?_ | refine W.g1 ?_ | refine W.g2 ?_ | refine W.g3 ?_ | refine W.g4 ?_ | refine W.g5 ?_ | refine W.g6 ?_ | refine W.g7 ?_ | refine W.g8 ?_
  | refine W.g9 ?_ | refine W.g10 ?_ | refine W.g11 ?_ | refine W.g12 ?_ | refine W.g13 ?_ | refine W.g14 ?_ | refine W.g15 ?_)
local macro_rules | `(tactic| walk_at "e") => `(tactic| with_reducible first
  | refine W.e_c ?_ | refine W.e_op ?_ | refine W.s_seq ?_ | refine W.s_asg ?_ | refine W.e_CB ?_ | refine W.a_cons ?_ | refine W.a_nil ?_ | refine W.e_call ?_
  | refine W.t_test ?_ | refine W.w_B ?_ | refine W.s_if ?_ | refine W.s_ret ?_ | refine W.s_drop ?_ | refine W.e_un ?_ | refine W.e_fld ?_ | refine W.s_fld ?_
  | refine W.e_meth ?_ | refine W.e_if ?_ | refine W.e_lst ?_ | refine W.e_tup ?_ | refine W.e_sl ?_ | refine W.o_none ?_ | refine W.o_some ?_ | refine W.w_part ?_
  | refine W.e_bm ?_ | refine W.e_bm0 ?_ | refine W.t_B ?_ | refine W.t_and ?_ | refine W.t_or ?_ | refine W.t_not ?_ | refine W.e_andV ?_ | refine W.e_orV ?_ | refine W.e_notV ?_ | refine W.w_BV ?_ | refine W.e_chain ?_
  | refine W.s_aug ?_ | refine W.s_augS ?_ | refine W.s_next ?_ | refine W.s_brk ?_ | refine W.s_cont ?_ | refine W.s_retN ?_ | refine W.s_fa ?_ | refine W.e_make ?_ | refine W.w_make ?_
  | refine W.w_I0 ?_ | refine W.w_U ?_ | refine W.w_aug ?_ | refine W.w_eqI ?_ | refine W.w_neI ?_ | refine W.w_eqS ?_ | refine W.w_neS ?_ | refine W.w_eqB ?_ | refine W.w_neB ?_
  | refine W.w_int ?_ | refine W.w_intB ?_ | refine W.w_min ?_ | refine W.w_max ?_ | refine W.w_isN ?_ | refine W.w_isI ?_ | refine W.w_isS ?_ | refine W.w_isB ?_ | refine W.w_isR ?_
  | refine W.w_notN ?_ | refine W.w_notI ?_ | refine W.w_notR ?_ | refine W.w_notS ?_ | refine W.w_eqNI ?_ | refine W.w_neNI ?_ | refine W.w_eqN ?_ | refine W.w_neN ?_
  | refine W.s_forL ?_ | refine W.s_forT ?_ | refine W.s_forS ?_ | refine W.s_forR1 ?_ | refine W.s_forR2 ?_ | refine W.s_forR3 ?_ | refine W.s_forZ ?_ | refine W.s_forE ?_
  | refine W.e_lcL ?_ | refine W.e_lcT ?_ | refine W.w_ord ?_ | refine W.e_lcR1 ?_ | refine W.e_lcR2 ?_ | refine W.e_lcZ ?_ | refine W.e_lcS ?_ | refine W.t_yes ?_ | refine W.w_gcons ?_ | refine W.w_gnil ?_ | refine W.s_par ?_ | refine W.w_par ?_ | refine W.g_sub ?_ | refine W.e_m1 ?_ | refine W.w_strR ?_ | refine W.w_rAdd ?_ | refine W.w_rSub ?_ | refine W.s_raise ?_ | refine W.s_try ?_ | refine W.e_methS ?_)
local macro_rules | `(tactic| walk_at "w") => `(tactic| first
  | ((with_reducible refine' W.w_I ?wh ?wq); (case wh => walk_at "c"))
  | ((with_reducible refine' W.w_ixL (n := 0) ?wh ?we ?wq); (case wh => walk_at "f"); (case we => walk_at "a"))
  | ((with_reducible refine' W.w_ixT (n := 0) ?wh ?we ?wq); (case wh => walk_at "f"); (case we => walk_at "a"))
  | ((with_reducible refine' W.w_lenL ?wh ?wq); (case wh => walk_at "f"))
  | ((with_reducible refine' W.w_lenT ?wh ?wq); (case wh => walk_at "f"))
  | ((with_reducible refine' W.w_lenS ?wh ?wq); (case wh => walk_at "n"))
  | ((with_reducible refine' W.w_app ?wh ?we ?wq); (case wh => walk_at "f"); (case we => walk_at "n"))
  | ((with_reducible refine' W.w_meth ?wh ?we ?wq); (case wh => walk_at "f"); (case we => first | assumption | rfl))
  | ((with_reducible refine' W.w_ixLTl ?wh ?we ?wq); (case wh => walk_at "f"); (case we => walk_at "a"))
  | ((with_reducible refine' W.w_ixLTt ?wh ?we ?wq); (case wh => walk_at "f"); (case we => walk_at "a"))
  | ((with_reducible refine' W.w_addS ?wh ?wq); (case wh => walk_at "n"))
  | ((with_reducible refine' W.w_set ?wh ?we ?wq); (case wh => walk_at "f"); (case we => walk_at "a"))
  | ((with_reducible refine' W.w_tup ?wh ?we ?wq); (case wh => walk_at "f"); (case we => first | assumption | rfl))
  | ((with_reducible refine' W.w_slS ?wh ?wq); (case wh => walk_at "n"))
  | ((with_reducible refine' W.w_rApp ?wh ?we ?wq); (case wh => walk_at "f"); (case we => walk_at "n"))
  | ((with_reducible refine' W.w_newL ?wh ?wq); (case wh => walk_at "n"))
  | ((with_reducible refine' W.w_newT ?wh ?wq); (case wh => walk_at "n"))
  | ((with_reducible refine' W.w_listL ?wh ?wq); (case wh => walk_at "f"))
  | ((with_reducible refine' W.w_tupL ?wh ?wq); (case wh => walk_at "f"))
  | ((with_reducible refine' W.w_slL ?wh ?wq); (case wh => walk_at "f"))
  | ((with_reducible refine' W.w_cat ?wh ?wf ?we ?wq); (case wh => walk_at "f"); (case wf => walk_at "f"); (case we => walk_at "n"))
  | ((with_reducible refine' W.w_catT ?wh ?wf ?wx ?wy ?we ?wq); (case wh => walk_at "f"); (case wf => walk_at "f"); (case wx => exact List.cons_ne_nil _ _); (case wy => exact List.cons_ne_nil _ _); (case we => walk_at "n"))
  | ((with_reducible refine' W.w_ext ?wh ?wf ?we ?wq); (case wh => walk_at "f"); (case wf => walk_at "f"); (case we => walk_at "n"))
  | ((with_reducible refine' W.w_recv ?wh ?wq); (case wh => walk_at "f"))
  | ((with_reducible refine' W.w_isi1 ?wh ?we ?wq); (case wh => assumption); (case we => decide +kernel))
  | ((with_reducible refine' W.w_isi0 ?wh ?we ?wq); (case wh => assumption); (case we => decide +kernel))
  | ((with_reducible refine' W.w_isiT10 ?wh ?wf ?we ?wg ?wq); (case wh => assumption); (case wf => walk_at "f"); (case we => decide +kernel); (case wg => decide +kernel))
  | ((with_reducible refine' W.w_isiT01 ?wh ?wf ?we ?wg ?wq); (case wh => assumption); (case wf => walk_at "f"); (case we => decide +kernel); (case wg => decide +kernel))
  | ((with_reducible refine' W.w_isiT00 ?wh ?wf ?we ?wg ?wq); (case wh => assumption); (case wf => walk_at "f"); (case we => decide +kernel); (case wg => decide +kernel))
  | ((with_reducible refine' W.w_ins ?wh ?we ?wf ?wq); (case wh => walk_at "f"); (case we => walk_at "n"); (case wf => walk_at "c"))
  | ((with_reducible refine' W.w_unl ?wh ?we ?wq); (case wh => walk_at "f"); (case we => first | assumption | rfl))
  | ((with_reducible refine' W.ite_T ?_))
  | ((with_reducible refine' W.ite_F ?_))
  | ((with_reducible refine' W.ite_nT ?_))
  | ((with_reducible refine' W.ite_nF ?_))
  | ((with_reducible refine' W.ite_self ?_))
  | ((with_reducible refine' W.ite_nself ?_))
  | ((with_reducible refine' W.ite_tf ?_))
  | ((with_reducible refine' W.ite_ft ?_))
  | ((with_reducible refine' W.ite_ntf ?_))
  | ((with_reducible refine' W.ite_nft ?_))
  | ((with_reducible refine' And.intro ?wl ?wq); (case wl => rfl)))
local macro_rules | `(tactic| walk_at "i") => `(tactic| try (dsimp only [L2.cxOf, L2.wipe, List.map, List.set]))
local macro_rules | `(tactic| walk_at "s") => `(tactic| first | walk_at "v" | walk_at "e" | walk_at "w")
local macro_rules | `(tactic| walk_at "r") => `(tactic| repeat walk_at "s")

namespace My
open PySem L2 W
/-- a reader's fields -/
def rdF (d : Addr) (p : Nat) : List (Str × V) := [("data", .ref d), ("at", .int (p : Int))]
theorem ne1 : ¬ (("data" : Str) = "at") := by decide +kernel
theorem lk1 {d : Addr} {p : Nat} : (rdF d p).lookup ("data" : Str) = some (.ref d) := by simp [rdF, List.lookup]
theorem lk2 {d : Addr} {p : Nat} : (rdF d p).lookup ("at" : Str) = some (.int (p : Int)) := by
  have h : (("at" : Str) == "data") = false := by decide +kernel
  simp [rdF, List.lookup, h]
theorem lkn {d : Addr} {p : Nat} {m : Str} (h1 : (m == ("data" : Str)) = false) (h2 : (m == ("at" : Str)) = false) : (rdF d p).lookup m = none := by simp [rdF, List.lookup, h1, h2]
theorem pf0 {d : Addr} : putF "at" (.int 0) (putF "data" (.ref d) []) = rdF d 0 := by
  show (if ("data" : Str) = "at" then _ else (("data" : Str), V.ref d) :: [(("at" : Str), V.int 0)]) = _
  rw [if_neg ne1]; rfl
theorem pf1 {d : Addr} {p : Nat} : putF "at" (.int ((p : Int) + 1)) (rdF d p) = rdF d (p + 1) := by
  show (if ("data" : Str) = "at" then _ else (("data" : Str), V.ref d) :: (if ("at" : Str) = "at" then [(("at" : Str), V.int ((p : Int) + 1))] else _)) = _
  rw [if_neg ne1, if_pos rfl]; rfl
local macro_rules | `(tactic| walk_at "w") => `(tactic| first
  | ((with_reducible refine' W.w_getF ?wh ?wc ?wn ?wl ?wq); (case wh => walk_at "f"); (case wc => exact Env.c_Reader (by assumption)); (case wn => first | exact Env.x_Reader_data (by assumption) | exact Env.x_Reader_at (by assumption)); (case wl => first | exact lk1 | exact lk2))
  | ((with_reducible refine' W.w_fa ?wh ?wc ?wn ?wl ?wq); (case wh => walk_at "f"); (case wc => exact Env.c_Reader (by assumption)); (case wn => first | exact Env.x_Reader_data (by assumption) | exact Env.x_Reader_at (by assumption)); (case wl => first | exact lk1 | exact lk2))
  | ((with_reducible refine' W.w_pf ?wh ?wl ?wq); (case wh => walk_at "f"); (case wl => exact (show 2 < 1000 by decide)))
  | ((with_reducible refine' W.w_setF ?wh ?wc ?wn ?wl ?wq); (case wh => walk_at "f"); (case wc => exact Env.c_Reader (by assumption)); (case wn => first | exact Env.x_Reader_data (by assumption) | exact Env.x_Reader_at (by assumption)); (case wl => first | exact (show 2 < 1000 by decide) | exact (show 0 < 1000 by decide) | exact Nat.lt_of_le_of_lt (length_putF _ _ _) (show 1 < 1000 by decide))))
variable {P : Program} {w : World} {K : PySem.W.Frag} {mg : Str → Option Value} {base : Heap} {A : Adr}
theorem exm_D (e : Env K mg A) : PySem.W.exmOne K (.ref A.C_DamagedPacket) (.ref A.C_DamagedPacket) = some true := exm_self e.bb_DamagedPacket e.ii_DamagedPacket e.tt_DamagedPacket e.sub_DamagedPacket_DamagedPacket
/-- a reader stands at r, its bytes at d -/
def RdAt (C : Addr) (H : Hp) (r dx d : Addr) (ds : List Int) (p : Nat) : Prop := H r = some (.ins C dx (rdF d p)) ∧ H d = some (.lst (ds.map V.int))
def sp_init (A : Adr) (K : PySem.W.Frag) : Sp := fun vs H Q _ => ∃ (r dx a : Addr) (ds : List Int), vs = [.ref r, .ref a] ∧ H r = some (.ins A.C_Reader dx []) ∧ H a = some (.lst (ds.map V.int)) ∧
  ∀ d H', H d = none → Keep [r] H H' → RdAt A.C_Reader H' r dx d ds 0 → Q .non H'
theorem ok_Reader___init__ (e : Env K mg A) : FnOk P w K mg base CX0 1 A.f_Reader___init__ A.d_Reader___init__ ["self", "data"] (sp_init A K) := by
  refine e.F_Reader___init__.ok sc_Reader___init__ (fun vs H Q E h => ?_) (fun cdv AA outer s H vs Q E hr h => ?_)
  · obtain ⟨r, dx, a, ds, rfl, _⟩ := h
    rfl
  · obtain ⟨r, dx, a, ds, rfl, hr0, ha, q⟩ := h
    refine ⟨_, (pss_cons (ps_fldK (K := K) (pv 0) (pe_callTy (call_listLK (K := K)) (by rfl) e.n_list (by decide +kernel) (pa_cons (pv 1) pa_nil)) rfl)
    (pss_one (ps_fldK (K := K) (pv 0) pe_int rfl))), ?_⟩
    refine enter (st_Reader___init__ _ _) ?_
    walk_at "i"
    walk_at "r"
    intro d H1 nd k1 hd
    walk_at "r"
    intro H2 k2 h2
    have rd : d ≠ r := Ne.symm (ne_of_none hr0 nd)
    have hd2 := k2.get hd (by simp [rd])
    walk_at "r"
    intro H3 k3 h3
    rw [pf0] at h3
    walk_at "r"
    exact q d H3 nd (k1.any.trans (k2.trans k3)) ⟨h3, k3.get hd2 (by simp [rd])⟩
def sp_byte (A : Adr) : Sp := fun vs H Q E => ∃ (r dx d : Addr) (ds : List Int) (p : Nat), vs = [.ref r] ∧ RdAt A.C_Reader H r dx d ds p ∧
  (p < ds.length → ∀ H', Keep [r] H H' → RdAt A.C_Reader H' r dx d ds (p + 1) → Q (.int (ds.getD p 0)) H') ∧ (¬ p < ds.length → E (.ref A.C_DamagedPacket) none H)
theorem RdAt.ne {C : Addr} {H : Hp} {r dx d : Addr} {ds : List Int} {p : Nat} (h : RdAt C H r dx d ds p) : d ≠ r := by
  intro z; subst z; obtain ⟨h1, h2⟩ := h; rw [h1] at h2; cases h2
theorem RdAt.keep {S : List Addr} {C : Addr} {H H' : Hp} {r dx d : Addr} {ds : List Int} {p : Nat} (h : RdAt C H r dx d ds p) (k : Keep S H H') (n : r ∉ S) (n2 : d ∉ S) : RdAt C H' r dx d ds p := ⟨k.get h.1 n, k.get h.2 n2⟩
theorem ok_Reader_read_byte (e : Env K mg A) : FnOk P w K mg base (L2.CX P w) 1 A.f_Reader_read_byte A.d_Reader_read_byte ["self"] (sp_byte A) := by
  refine e.F_Reader_read_byte.okX sc_Reader_read_byte (fun vs H Q E h => ?_) (fun cdv AA outer s H vs Q E hr h => ?_)
  · obtain ⟨r, dx, d, ds, p, rfl, _⟩ := h
    rfl
  · obtain ⟨r, dx, d, ds, p, rfl, hR, q1, q2⟩ := h
    have hne := hR.ne
    obtain ⟨h1, h2⟩ := hR
    refine ⟨_, (pss_cons (ps_if (pt_cmpR op_ge (pe_fldK (K := K) (pv 0) rfl) (pe_callB (call_lenLK (K := K)) (by rfl) e.n_len (by decide +kernel) (pa_cons (pe_fldK (K := K) (pv 0) rfl) pa_nil)) (nomark _)) (pss_one (ps_raise1 rfl (takes_of rfl rfl rfl rfl) PySem.F.excBase_ValueError e.xx_DamagedPacket e.m_DamagedPacket e.kk_DamagedPacket (raises_own e.bb_DamagedPacket e.tt_DamagedPacket) (by rfl))) pss_nil)
    (pss_cons (ps_fldaugK (K := K) (pv 0) pe_int in_add)
    (pss_one (ps_ret (pe_ix (ix_listK (K := K)) (pe_fldK (K := K) (pv 0) rfl) (pe_op op_sub (pe_fldK (K := K) (pv 0) rfl) pe_int) (fun _ _ => rfl)))))), ?_⟩
    refine enter (st_Reader_read_byte _) ?_
    walk_at "i"
    walk_at "r"
    rw [List.length_map]
    refine ite_dec (fun hl => ?_) (fun hl => ?_)
    · walk_at "r"
      exact q2 (by omega)
    · walk_at "r"
      intro H1 k1 h3
      rw [pf1] at h3
      have hd1 := k1.get h2 (by simp [hne])
      have hp : p < ds.length := by omega
      have hat : atI (ds.map V.int) (((p + 1 : Nat) : Int) - 1) = some (.int (ds.getD p 0)) := by
        rw [show ((p + 1 : Nat) : Int) - 1 = (p : Int) by omega]
        refine atI_nat ?_
        rw [List.getElem?_map, List.getD_eq_getElem?_getD, List.getElem?_eq_getElem hp]; rfl
      walk_at "r"
      exact q1 hp H1 k1 ⟨h3, hd1⟩
/-! ### what a reader promises: what P reads of its bytes -/
def spR (A : Adr) {α : Type} (P : Rdr α) (Val : Hp → α → V → Prop) : Sp := fun vs H Q E => ∃ (r dx d : Addr) (ds : List Int) (p : Nat), vs = [.ref r] ∧ RdAt A.C_Reader H r dx d ds p ∧ ds.length ≤ 1000000 ∧
  (∀ a q, P ds p = some (a, q) → ∀ v H', Keep [r] H H' → RdAt A.C_Reader H' r dx d ds q → Val H' a v → Q v H') ∧ (P ds p = none → ∀ H', Keep [r] H H' → E (.ref A.C_DamagedPacket) none H')
def vN (_ : Hp) (n : Nat) (v : V) : Prop := v = .int (n : Int)
def vI (_ : Hp) (n : Int) (v : V) : Prop := v = .int n
def vC (_ : Hp) (c : Nat) (v : V) : Prop := v = .str (tx [c])
def vS (_ : Hp) (s : List Nat) (v : V) : Prop := v = .str (tx s)
def vM (H : Hp) (m : Nat × Nat) (v : V) : Prop := ∃ t, v = .ref t ∧ H t = some (.tup [.int (m.1 : Int), .int (m.2 : Int)])
def vB (H : Hp) : Option (Nat × Nat) → V → Prop
  | none, v => v = .non
  | some m, v => vM H m v
def vMs (H : Hp) (rm : List (Nat × Nat)) (us : List V) : Prop := Paired (fun v m => vM H m v) us rm
def vD (H : Hp) : Dd → V → Prop
  | .back n, v => ∃ t, v = .ref t ∧ H t = some (.tup [.str "back", .int (n : Int)])
  | .chg m rm bh n t, v => ∃ a r us b, v = .ref a ∧ H a = some (.tup [.str "change", .str (tx m), .ref r, b, .int (n : Int), .str (tx t)]) ∧ H r = some (.tup us) ∧ vMs H rm us ∧ vB H bh b
def vT (H : Hp) (t : Tri) (v : V) : Prop := ∃ a b, v = .ref a ∧ H a = some (.tup [.int (t.r : Int), .int (t.p : Int), b]) ∧ vD H t.d b
def vTs (H : Hp) (ts : List Tri) (us : List V) : Prop := Paired (fun v t => vT H t v) us ts
def vTl (H : Hp) (ts : List Tri) (v : V) : Prop := ∃ a us, v = .ref a ∧ H a = some (.lst us) ∧ vTs H ts us
section
variable {H H' : Hp} {S : List Addr}
theorem vM.keep {m : Nat × Nat} {v : V} (h : vM H m v) (k : Keep S H H') : vM H' m v := by obtain ⟨t, e, h⟩ := h; exact ⟨t, e, k.2 _ _ h⟩
theorem vMs.keep {rm : List (Nat × Nat)} {us : List V} (h : vMs H rm us) (k : Keep S H H') : vMs H' rm us := Paired.mapP h fun _ _ h => vM.keep h k
theorem vB.keep {bh : Option (Nat × Nat)} {v : V} (h : vB H bh v) (k : Keep S H H') : vB H' bh v := by
  cases bh with
  | none => exact h
  | some m => exact vM.keep h k
theorem vD.keep {d : Dd} {v : V} (h : vD H d v) (k : Keep S H H') : vD H' d v := by
  cases d with
  | back n => obtain ⟨t, e, h⟩ := h; exact ⟨t, e, k.2 _ _ h⟩
  | chg m rm bh n t =>
    obtain ⟨a, r, us, b, e, h1, h2, h3, h4⟩ := h
    exact ⟨a, r, us, b, e, k.2 _ _ h1, k.2 _ _ h2, vMs.keep h3 k, vB.keep h4 k⟩
theorem vT.keep {t : Tri} {v : V} (h : vT H t v) (k : Keep S H H') : vT H' t v := by obtain ⟨a, b, e, h1, h2⟩ := h; exact ⟨a, b, e, k.2 _ _ h1, vD.keep h2 k⟩
theorem vTs.keep {ts : List Tri} {us : List V} (h : vTs H ts us) (k : Keep S H H') : vTs H' ts us := Paired.mapP h fun _ _ h => vT.keep h k
end
theorem ok_Reader_read_number (e : Env K mg A) : FnOk P w K mg base (L2.CX P w) 2 A.f_Reader_read_number A.d_Reader_read_number ["self"] (spR A pnum vN) := by
  have G_Reader_read_byte := ok_Reader_read_byte (P := P) (w := w) (base := base) e
  refine e.F_Reader_read_number.okX sc_Reader_read_number (fun vs H Q E h => ?_) (fun cdv AA outer s H vs Q E hr h => ?_)
  · obtain ⟨r, dx, d, ds, p, rfl, _⟩ := h
    rfl
  · obtain ⟨r, dx, d, ds, p, rfl, hR, _, q1', q2'⟩ := h
    have q1 : ∀ i n, rn 60 (ds.drop p) 0 0 1 = some (i, n) → ∀ H', Keep [r] H H' → RdAt A.C_Reader H' r dx d ds (p + i) → Q (.int n) H' := fun i n h H' k R => by
      obtain ⟨e1, e2⟩ := pnum_some h
      rw [e2]
      exact q1' _ _ e1 _ H' k R rfl
    have q2 : rn 60 (ds.drop p) 0 0 1 = none → ∀ H' p', Keep [r] H H' → RdAt A.C_Reader H' r dx d ds p' → E (.ref A.C_DamagedPacket) none H' := fun h H' p' k _ => q2' (pnum_none h) H' k
    refine ⟨_, (pss_cons (ps_set (i := 1) sc_Reader_read_number.nd rfl (Or.inl rfl) pe_int)
    (pss_cons (ps_set (i := 2) sc_Reader_read_number.nd rfl (Or.inl rfl) pe_int)
    (pss_cons (ps_for (passes_of rfl) rfl (pi_range1 rfl e.n_range (pa_cons (pe_glob (by rfl) e.m_NUMBER_BYTES e.r_NUMBER_BYTES) pa_nil)) (pg_name (i := 3) sc_Reader_read_number.nd rfl (Or.inl rfl)) (pss_cons (ps_set (i := 4) sc_Reader_read_number.nd rfl (Or.inl rfl) (pe_meth0 (pv 0) e.c_Reader e.h_Reader_read_byte G_Reader_read_byte (hr.mono (by omega)) e.b_Reader_read_byte .nil (passes_call (takes_of rfl rfl rfl rfl) (fun _ _ _ _ h => h))))
    (pss_cons (ps_aug (i := 1) sc_Reader_read_number.nd rfl (Or.inl rfl) (pe_op op_mul (pe_op op_mod (pv 4) pe_int) (pv 2)) ip_add)
    (pss_cons (ps_if (pt_cmpR op_lt (pv 4) pe_int (nomark _)) (pss_cons (ps_if (PW.pt (pw_and (pt_cmpR op_eq (pv 4) pe_int (nomark _)) (pw_and1 (pt_cmpR op_gt (pv 3) pe_int (nomark _))))) (pss_one (ps_raise1 rfl (takes_of rfl rfl rfl rfl) PySem.F.excBase_ValueError e.xx_DamagedPacket e.m_DamagedPacket e.kk_DamagedPacket (raises_own e.bb_DamagedPacket e.tt_DamagedPacket) (by rfl))) pss_nil)
    (pss_one (ps_ret (pv 1)))) pss_nil)
    (pss_one (ps_set (i := 2) sc_Reader_read_number.nd rfl (Or.inl rfl) (pe_op op_mul (pv 2) pe_int)))))))
    (pss_one (ps_raise1 rfl (takes_of rfl rfl rfl rfl) PySem.F.excBase_ValueError e.xx_DamagedPacket e.m_DamagedPacket e.kk_DamagedPacket (raises_own e.bb_DamagedPacket e.tt_DamagedPacket) (by rfl)))))), ?_⟩
    refine enter (st_Reader_read_number _) ?_
    walk_at "i"
    walk_at "r"
    refine forR1 (by omega) (by omega) (fun i σ H' => ∃ (t c : Int) (v3 v4 : Option V), σ = [some (.ref r), some (.int t), some (.int c), v3, v4] ∧ Keep [r] H H' ∧ RdAt A.C_Reader H' r dx d ds (p + i) ∧ i ≤ 60 ∧
        rn 60 (ds.drop p) 0 0 1 = rn (60 - i) (ds.drop (p + i)) i t c)
      ⟨_, _, _, _, rfl, Keep.refl, hR, by omega, rfl⟩ ?_ ?_
    · rintro i σ H1 hi ⟨t, c, v3, v4, rfl, k1, R1, hi2, hrn⟩
      have hr1 := R1.1
      obtain ⟨f, hf⟩ : ∃ f, 60 - i = f + 1 := ⟨59 - i, by omega⟩
      rw [hf] at hrn
      have hlk : (rdF d (p + i)).lookup ("read_byte" : Str) = none := lkn (by decide +kernel) (by decide +kernel)
      walk_at "r"
      refine ⟨r, dx, d, ds, p + i, rfl, R1, fun hp H2 k2 R2 => ?_, fun hp => ?_⟩
      · have hd : ds.drop (p + i) = ds.getD (p + i) 0 :: ds.drop (p + (i + 1)) := by
          rw [List.drop_eq_getElem_cons hp, List.getD_eq_getElem?_getD, List.getElem?_eq_getElem hp]; rfl
        rw [hd] at hrn
        generalize ds.getD (p + i) 0 = b at hrn
        have hrn2 : rn 60 (ds.drop p) 0 0 1 = if b < 128 then (if b = 0 ∧ 0 < i then none else some (i + 1, t + b % 128 * c)) else rn f (ds.drop (p + (i + 1))) (i + 1) (t + b % 128 * c) (c * 128) := hrn
        have R2' : RdAt A.C_Reader H2 r dx d ds (p + (i + 1)) := R2
        walk_at "r"
        refine ite_dec (fun hb => ?_) (fun hb => ?_)
        · rw [if_pos hb] at hrn2
          walk_at "r"
          have ret : ¬ (b = 0 ∧ 0 < i) → Q (.int (t + b % 128 * c)) H2 := fun z => by
            rw [if_neg z] at hrn2
            exact q1 _ _ hrn2 H2 (k1.trans k2) R2'
          refine ite_dec (fun h0 => ?_) (fun h0 => ?_)
          · walk_at "r"
            refine ite_dec (fun h1 => ?_) (fun h1 => ?_)
            · walk_at "r"
              rw [if_pos ⟨h0, by omega⟩] at hrn2
              exact q2 hrn2 H2 _ (k1.trans k2) R2'
            · walk_at "r"
              exact ret (fun z => h1 (by omega))
          · walk_at "r"
            exact ret (fun z => h0 z.1)
        · rw [if_neg hb] at hrn2
          walk_at "r"
          refine ⟨_, _, _, _, rfl, k1.trans k2, R2', by omega, ?_⟩
          rw [hrn2, show 60 - (i + 1) = f by omega]
      · rw [show ds.drop (p + i) = [] from List.drop_of_length_le (by omega)] at hrn
        exact q2 hrn H1 _ k1 R1
    · rintro σ H1 ⟨t, c, v3, v4, rfl, k1, R1, hi2, hrn⟩
      walk_at "r"
      exact q2 hrn H1 _ k1 R1
/-- a choice among the first -/
def sp_choice (A : Adr) : Sp := fun vs H Q E => ∃ (r dx d : Addr) (ds : List Int) (p : Nat), vs = [.ref r, .int 2] ∧ RdAt A.C_Reader H r dx d ds p ∧
  (∀ a q, pch ds p = some (a, q) → ∀ H', Keep [r] H H' → RdAt A.C_Reader H' r dx d ds q → Q (.int a) H') ∧ (pch ds p = none → ∀ H', Keep [r] H H' → E (.ref A.C_DamagedPacket) none H')
theorem pbyte_yes {ds : List Int} {p : Nat} (h : p < ds.length) : pbyte ds p = some (ds.getD p 0, p + 1) := by unfold pbyte; rw [if_pos h]
theorem pbyte_no {ds : List Int} {p : Nat} (h : ¬ p < ds.length) : pbyte ds p = none := by unfold pbyte; rw [if_neg h]
theorem ok_Reader_read_choice (e : Env K mg A) : FnOk P w K mg base (L2.CX P w) 2 A.f_Reader_read_choice A.d_Reader_read_choice ["self", "count"] (sp_choice A) := by
  have G_Reader_read_byte := ok_Reader_read_byte (P := P) (w := w) (base := base) e
  refine e.F_Reader_read_choice.okX sc_Reader_read_choice (fun vs H Q E h => ?_) (fun cdv AA outer s H vs Q E hr h => ?_)
  · obtain ⟨r, dx, d, ds, p, rfl, _⟩ := h
    rfl
  · obtain ⟨r, dx, d, ds, p, rfl, hR, q1, q2⟩ := h
    refine ⟨_, (pss_cons (ps_set (i := 2) sc_Reader_read_choice.nd rfl (Or.inl rfl) (pe_meth0 (pv 0) e.c_Reader e.h_Reader_read_byte G_Reader_read_byte (hr.mono (by omega)) e.b_Reader_read_byte .nil (passes_call (takes_of rfl rfl rfl rfl) (fun _ _ _ _ h => h))))
    (pss_cons (ps_if (pt_cmpR op_ge (pv 2) (pv 1) (nomark _)) (pss_one (ps_raise1 rfl (takes_of rfl rfl rfl rfl) PySem.F.excBase_ValueError e.xx_DamagedPacket e.m_DamagedPacket e.kk_DamagedPacket (raises_own e.bb_DamagedPacket e.tt_DamagedPacket) (by rfl))) pss_nil)
    (pss_one (ps_ret (pv 2))))), ?_⟩
    refine enter (st_Reader_read_choice _ _) ?_
    walk_at "i"
    have hr1 := hR.1
    have hlk : (rdF d p).lookup ("read_byte" : Str) = none := lkn (by decide +kernel) (by decide +kernel)
    walk_at "r"
    refine ⟨r, dx, d, ds, p, rfl, hR, fun hp H2 k2 R2 => ?_, fun hp => q2 (by unfold pch; rw [pbyte_no hp]; rfl) H Keep.refl⟩
    have hc : pch ds p = if 2 ≤ ds.getD p 0 then none else some (ds.getD p 0, p + 1) := by unfold pch; rw [pbyte_yes hp]; rfl
    walk_at "r"
    refine ite_dec (fun h2 => ?_) (fun h2 => ?_)
    · walk_at "r"
      exact q2 (by rw [hc, if_pos h2]) H2 k2
    · walk_at "r"
      exact q1 _ _ (by rw [hc, if_neg h2]) H2 k2 R2
def sp_end (A : Adr) : Sp := fun vs H Q E => ∃ (r dx d : Addr) (ds : List Int) (p : Nat), vs = [.ref r] ∧ RdAt A.C_Reader H r dx d ds p ∧ (¬ p < ds.length → Q .non H) ∧ (p < ds.length → E (.ref A.C_DamagedPacket) none H)
theorem ok_Reader_end (e : Env K mg A) : FnOk P w K mg base (L2.CX P w) 1 A.f_Reader_end A.d_Reader_end ["self"] (sp_end A) := by
  refine e.F_Reader_end.okX sc_Reader_end (fun vs H Q E h => ?_) (fun cdv AA outer s H vs Q E hr h => ?_)
  · obtain ⟨r, dx, d, ds, p, rfl, _⟩ := h
    rfl
  · obtain ⟨r, dx, d, ds, p, rfl, hR, q1, q2⟩ := h
    obtain ⟨h1, h2⟩ := hR
    refine ⟨_, (pss_one (ps_if (pt_cmpR op_lt (pe_fldK (K := K) (pv 0) rfl) (pe_callB (call_lenLK (K := K)) (by rfl) e.n_len (by decide +kernel) (pa_cons (pe_fldK (K := K) (pv 0) rfl) pa_nil)) (nomark _)) (pss_one (ps_raise1 rfl (takes_of rfl rfl rfl rfl) PySem.F.excBase_ValueError e.xx_DamagedPacket e.m_DamagedPacket e.kk_DamagedPacket (raises_own e.bb_DamagedPacket e.tt_DamagedPacket) (by rfl))) pss_nil)), ?_⟩
    refine enter (st_Reader_end _) ?_
    walk_at "i"
    walk_at "r"
    rw [List.length_map]
    refine ite_dec (fun hl => ?_) (fun hl => ?_)
    · walk_at "r"
      exact q2 (by omega)
    · walk_at "r"
      exact q1 (by omega)
theorem ok_Reader_read_count (e : Env K mg A) : FnOk P w K mg base (L2.CX P w) 3 A.f_Reader_read_count A.d_Reader_read_count ["self"] (spR A pcnt vN) := by
  have G_Reader_read_number := ok_Reader_read_number (P := P) (w := w) (base := base) e
  refine e.F_Reader_read_count.okX sc_Reader_read_count (fun vs H Q E h => ?_) (fun cdv AA outer s H vs Q E hr h => ?_)
  · obtain ⟨r, dx, d, ds, p, rfl, _⟩ := h
    rfl
  · obtain ⟨r, dx, d, ds, p, rfl, hR, hl, q1, q2⟩ := h
    refine ⟨_, (pss_cons (ps_set (i := 1) sc_Reader_read_count.nd rfl (Or.inl rfl) (pe_meth0 (pv 0) e.c_Reader e.h_Reader_read_number G_Reader_read_number (hr.mono (by omega)) e.b_Reader_read_number .nil (passes_call (takes_of rfl rfl rfl rfl) (fun _ _ _ _ h => h))))
    (pss_cons (ps_if (pt_cmpR op_gt (pv 1) (pe_op op_sub (pe_callB (call_lenLK (K := K)) (by rfl) e.n_len (by decide +kernel) (pa_cons (pe_fldK (K := K) (pv 0) rfl) pa_nil)) (pe_fldK (K := K) (pv 0) rfl)) (nomark _)) (pss_one (ps_raise1 rfl (takes_of rfl rfl rfl rfl) PySem.F.excBase_ValueError e.xx_DamagedPacket e.m_DamagedPacket e.kk_DamagedPacket (raises_own e.bb_DamagedPacket e.tt_DamagedPacket) (by rfl))) pss_nil)
    (pss_one (ps_ret (pv 1))))), ?_⟩
    refine enter (st_Reader_read_count _) ?_
    walk_at "i"
    have hr1 := hR.1
    have hlk : (rdF d p).lookup ("read_number" : Str) = none := lkn (by decide +kernel) (by decide +kernel)
    walk_at "r"
    refine ⟨r, dx, d, ds, p, rfl, hR, hl, fun n q hn v H2 k2 R2 hv => ?_, fun hn H2 k2 => q2 (by unfold pcnt; rw [hn]; rfl) H2 k2⟩
    cases hv
    have hc : pcnt ds p = if ds.length < n + q then none else some (n, q) := by unfold pcnt; rw [hn]; rfl
    obtain ⟨h1, h2⟩ := R2
    walk_at "r"
    rw [List.length_map]
    refine ite_dec (fun h3 => ?_) (fun h3 => ?_)
    · walk_at "r"
      exact q2 (by rw [hc, if_pos (by omega)]) H2 k2
    · walk_at "r"
      exact q1 _ _ (by rw [hc, if_neg (by omega)]) _ H2 k2 ⟨h1, h2⟩ rfl
theorem bef_ : (Str.ofString " !\"#$").cps.toList = List.range' 32 5 := by decide +kernel
theorem aft_ : (Str.ofString "&'()*+,-./0123456789:;<=>?@ABCDEFGHIJKLMNOPQRSTUVWXYZ[\\]^_`abcdefghijklmnopqrstuvwxyz{|}~").cps.toList = List.range' 38 89 := by decide +kernel
theorem nl_ : Str.ofString "\n" = tx [10] := by decide +kernel
theorem em_ : Str.ofString "" = tx [] := by decide +kernel
theorem bef_at {n : Nat} (h1 : 32 ≤ n) (h2 : n < 37) : atI (Str.ofString " !\"#$").cps.toList ((n : Int) - 32) = some n := by
  rw [bef_, show (n : Int) - 32 = ((n - 32 : Nat) : Int) by omega]
  exact atI_nat (by rw [List.getElem?_range' (by omega)]; congr 1; omega)
theorem aft_at {n : Nat} (h1 : 38 ≤ n) (h2 : n < 127) : atI (Str.ofString "&'()*+,-./0123456789:;<=>?@ABCDEFGHIJKLMNOPQRSTUVWXYZ[\\]^_`abcdefghijklmnopqrstuvwxyz{|}~").cps.toList ((n : Int) - 38) = some n := by
  rw [aft_, show (n : Int) - 38 = ((n - 38 : Nat) : Int) by omega]
  exact atI_nat (by rw [List.getElem?_range' (by omega)]; congr 1; omega)
theorem bef_z : (Str.ofString " !\"#$").length ≤ sizeLine := by rw [PySem.sizeLine_eq]; decide +kernel
theorem aft_z : (Str.ofString "&'()*+,-./0123456789:;<=>?@ABCDEFGHIJKLMNOPQRSTUVWXYZ[\\]^_`abcdefghijklmnopqrstuvwxyz{|}~").length ≤ sizeLine := by rw [PySem.sizeLine_eq]; decide +kernel
theorem ok_Reader_read_character (e : Env K mg A) : FnOk P w K mg base (L2.CX P w) 3 A.f_Reader_read_character A.d_Reader_read_character ["self"] (spR A psig vC) := by
  have G_Reader_read_number := ok_Reader_read_number (P := P) (w := w) (base := base) e
  refine e.F_Reader_read_character.okX sc_Reader_read_character (fun vs H Q E h => ?_) (fun cdv AA outer s H vs Q E hr h => ?_)
  · obtain ⟨r, dx, d, ds, p, rfl, _⟩ := h
    rfl
  · obtain ⟨r, dx, d, ds, p, rfl, hR, hl, q1, q2⟩ := h
    refine ⟨_, (pss_cons (ps_set (i := 1) sc_Reader_read_character.nd rfl (Or.inl rfl) (pe_meth0 (pv 0) e.c_Reader e.h_Reader_read_number G_Reader_read_number (hr.mono (by omega)) e.b_Reader_read_number .nil (passes_call (takes_of rfl rfl rfl rfl) (fun _ _ _ _ h => h))))
    (pss_cons (ps_if (pt_cmpR op_eq (pv 1) pe_int (nomark _)) (pss_one (ps_ret pe_str)) pss_nil)
    (pss_cons (ps_if (pt_chain op_le op_lt pe_int (pv 1) pe_int) (pss_one (ps_ret (pe_ix ix_str (pe_glob (by rfl) e.m_BEFORE_PERCENT e.r_BEFORE_PERCENT) (pe_op op_sub (pv 1) pe_int) (fun _ _ => rfl)))) pss_nil)
    (pss_cons (ps_if (pt_chain op_le op_lt pe_int (pv 1) pe_int) (pss_one (ps_ret (pe_ix ix_str (pe_glob (by rfl) e.m_AFTER_PERCENT e.r_AFTER_PERCENT) (pe_op op_sub (pv 1) pe_int) (fun _ _ => rfl)))) pss_nil)
    (pss_one (ps_raise1 rfl (takes_of rfl rfl rfl rfl) PySem.F.excBase_ValueError e.xx_DamagedPacket e.m_DamagedPacket e.kk_DamagedPacket (raises_own e.bb_DamagedPacket e.tt_DamagedPacket) (by rfl))))))), ?_⟩
    refine enter (st_Reader_read_character _) ?_
    walk_at "i"
    simp only [nl_]
    have hr1 := hR.1
    have hlk : (rdF d p).lookup ("read_number" : Str) = none := lkn (by decide +kernel) (by decide +kernel)
    walk_at "r"
    refine ⟨r, dx, d, ds, p, rfl, hR, hl, fun n q hn v H2 k2 R2 hv => ?_, fun hn H2 k2 => q2 (by unfold psig; rw [hn]; rfl) H2 k2⟩
    cases hv
    have hc : psig ds p = if okch n then some (n, q) else none := by unfold psig; rw [hn]; rfl
    have yes : okch n = true → ∀ v, v = V.str (tx [n]) → Q v H2 := fun h v hv => q1 _ _ (by rw [hc, if_pos h]) _ H2 k2 R2 hv
    have no : okch n = false → E (.ref A.C_DamagedPacket) none H2 := fun h => q2 (by rw [hc, h]; rfl) H2 k2
    walk_at "r"
    refine ite_dec (fun h1 => ?_) (fun h1 => ?_)
    · walk_at "r"
      have e1 : n = 10 := by omega
      exact yes (by rw [e1]; rfl) _ (by rw [e1])
    walk_at "r"
    refine ite_dec (fun h2 => ?_) (fun h2 => ?_)
    · walk_at "r"
      refine ite_dec (fun h3 => ?_) (fun h3 => ?_)
      · walk_at "r"
        refine w_ixS bef_z (bef_at (by omega) (by omega)) ?_
        exact yes (by unfold okch; simp; omega) _ rfl
      · walk_at "r"
        refine ite_dec (fun h4 => ?_) (fun h4 => ?_)
        · walk_at "r"
          refine ite_dec (fun h5 => ?_) (fun h5 => ?_)
          · walk_at "r"
            refine w_ixS aft_z (aft_at (by omega) (by omega)) ?_
            exact yes (by unfold okch; simp; omega) _ rfl
          · walk_at "r"
            exact no (by unfold okch; simp; omega)
        · walk_at "r"
          exact no (by unfold okch; simp; omega)
    · walk_at "r"
      refine ite_N (by omega) ?_
      walk_at "r"
      exact no (by unfold okch; simp; omega)

/-- a value stays a value -/
def Stays {α : Type} (Val : Hp → α → V → Prop) : Prop := ∀ (S : List Addr) (H H' : Hp) (a : α) (v : V), Val H a v → Keep S H H' → Val H' a v
theorem stays_N : Stays vN := fun _ _ _ _ _ h _ => h
theorem stays_C : Stays vC := fun _ _ _ _ _ h _ => h
theorem stays_S : Stays vS := fun _ _ _ _ _ h _ => h
theorem stays_M : Stays vM := fun _ _ _ _ _ h k => vM.keep h k
theorem stays_T : Stays vT := fun _ _ _ _ _ h k => vT.keep h k
/-- items read one after another into a list D -/
def Many (C : Addr) {α : Type} (P : Rdr α) (Val : Hp → α → V → Prop) (H : Hp) (r dx d : Addr) (ds : List Int) (p : Nat) (D : Addr) (i : Nat) (H' : Hp) : Prop :=
  ∃ (us : List V) (l : List α) (q : Nat), Keep [r] H H' ∧ H' D = some (.lst us) ∧ RdAt C H' r dx d ds q ∧ pmany (P ds) i p = some (l, q) ∧ Paired (fun v a => Val H' a v) us l
theorem Many.start {C : Addr} {α : Type} {P : Rdr α} {Val : Hp → α → V → Prop} {H H1 : Hp} {r dx d D : Addr} {ds : List Int} {p : Nat} (R : RdAt C H r dx d ds p) (k : Keep [] H H1) (h : H1 D = some (.lst [])) : Many C P Val H r dx d ds p D 0 H1 :=
  ⟨[], [], p, k.any, h, R.keep k (by simp) (by simp), rfl, Paired.nil⟩
theorem Many.len {C : Addr} {α : Type} {P : Rdr α} {Val : Hp → α → V → Prop} {H' : Hp} {ds : List Int} {i p q : Nat} {us : List V} {l : List α} (hm : pmany (P ds) i p = some (l, q)) (hp : Paired (fun v a => Val H' a v) us l) : us.length = i := by
  rw [Paired.length hp, pmany_len _ hm]
theorem Many.next {C : Addr} {α : Type} {P : Rdr α} {Val : Hp → α → V → Prop} (sy : Stays Val) {H H3 H4 H5 : Hp} {r dx d D : Addr} {ds : List Int} {p q q2 i : Nat} {us : List V} {l : List α} {a : α} {v : V} (R : RdAt C H r dx d ds p) (nD : H D = none)
    (k3 : Keep [r] H H3) (hm : pmany (P ds) i p = some (l, q)) (hp : Paired (fun v a => Val H3 a v) us l) (ha : P ds q = some (a, q2)) (k4 : Keep [r] H3 H4) (R4 : RdAt C H4 r dx d ds q2) (hv : Val H4 a v) (k5 : Keep [D] H4 H5) (h5 : H5 D = some (.lst (us ++ [v]))) :
    Many C P Val H r dx d ds p D (i + 1) H5 :=
  have rD := ne_of_none R.1 nD
  have dD := ne_of_none R.2 nD
  ⟨us ++ [v], l ++ [a], q2, (k3.trans k4).mut nD k5, h5, R4.keep k5 (by simp [rD]) (by simp [dD]), pmany_step _ hm ha, Paired.snoc (Paired.mapP hp fun _ _ h => sy _ _ _ _ _ h (k4.mono (S' := [r, D]) (by simp) |>.trans (k5.mono (by simp)))) (sy _ _ _ _ _ hv k5)⟩
theorem join_tx1 (l : List Nat) : Txt.join (tx []) (l.map fun c => tx [c]) = tx l := by
  have h := tx_join (l.map fun c => [c])
  rw [List.map_map] at h
  rw [show (l.map fun c => tx [c]) = l.map (tx ∘ fun c => [c]) from rfl, h]
  congr 1
  clear h
  induction l with
  | nil => rfl
  | cons a r ih => rw [List.map_cons, List.flatten_cons, ih]; rfl
theorem pd_chars {H : Hp} : ∀ {us : List V} {l : List Nat}, Paired (fun v a => vC H a v) us l → us = (l.map fun c => tx [c]).map V.str := by
  intro us l h
  induction h with
  | nil => rfl
  | cons h _ ih => cases h; simp [ih]
theorem ok_Reader_read_string (e : Env K mg A) : FnOk P w K mg base (L2.CX P w) 4 A.f_Reader_read_string A.d_Reader_read_string ["self"] (spR A pstr vS) := by
  have G_Reader_read_count := ok_Reader_read_count (P := P) (w := w) (base := base) e
  have G_Reader_read_character := ok_Reader_read_character (P := P) (w := w) (base := base) e
  refine e.F_Reader_read_string.okX sc_Reader_read_string (fun vs H Q E h => ?_) (fun cdv AA outer s H vs Q E hr h => ?_)
  · obtain ⟨r, dx, d, ds, p, rfl, _⟩ := h
    rfl
  · obtain ⟨r, dx, d, ds, p, rfl, hR, hl, q1, q2⟩ := h
    refine ⟨_, (pss_one (ps_ret (pe_joinK (K := K) pe_str (pe_lcX (own := [("_", 1)]) rfl rfl (takes_of rfl rfl rfl rfl) (by rfl) sc_Reader_read_string.nd (pi_range1 rfl e.n_range (pa_cons (pe_meth0 (pv 0) e.c_Reader e.h_Reader_read_count G_Reader_read_count (hr.mono (by omega)) e.b_Reader_read_count .nil (passes_call (takes_of rfl rfl rfl rfl) (fun _ _ _ _ h => h))) pa_nil)) (blkOk_by (own := [("_", 1)]) (N := nm_Reader_read_string) (sc := defScope s_Reader_read_string) (by decide +kernel)) (fun _ _ _ _ _ => (pg_name (i := 1) sc_Reader_read_string.nd rfl (Or.inl rfl))) (fun _ _ _ _ _ => pts_nil) (fun _ _ _ _ _ xe tkx => (pe_meth0 (pv 0) e.c_Reader e.h_Reader_read_character G_Reader_read_character (hr.mono (by omega)) e.b_Reader_read_character .nil (passes_call tkx (fun _ _ _ _ h => h)))))))), ?_⟩
    refine enter (st_Reader_read_string _) ?_
    walk_at "i"
    simp only [em_]
    have hr1 := hR.1
    have hlk : (rdF d p).lookup ("read_count" : Str) = none := lkn (by decide +kernel) (by decide +kernel)
    walk_at "r"
    refine ⟨r, dx, d, ds, p, rfl, hR, hl, fun n q hn v H2 k2 R2 hv => ?_, fun hn H2 k2 => q2 (by unfold pstr plist; rw [hn]; rfl) H2 k2⟩
    cases hv
    have hnl := (pcnt_le hn).1
    have hP : pstr ds p = pmany (psig ds) n q := by unfold pstr plist; rw [hn]; rfl
    walk_at "r"
    walk_at "i"
    refine lcR1 (by omega) (by omega) (fun D i H' => Many A.C_Reader psig vC H2 r dx d ds q D i H') (fun D H3 nD k3 hD => Many.start R2 k3 hD) ?_ ?_
    · rintro D i H3 nD hi ⟨us, l, q', k3, hD, R3, hm, hv⟩
      have hr3 := R3.1
      have hul := Many.len (C := A.C_Reader) hm hv
      have rD := ne_of_none R2.1 nD
      walk_at "i"
      have hlk : (rdF d q').lookup ("read_character" : Str) = none := lkn (by decide +kernel) (by decide +kernel)
      walk_at "r"
      refine ⟨r, dx, d, ds, q', rfl, R3, hl, fun a q2' ha v H4 k4 R4 hv4 => ?_, fun ha H4 k4 => q2 (by rw [hP]; exact pmany_stop (psig ds) hm ha (by omega)) H4 (k2.trans (k3.trans k4))⟩
      have hD4 := k4.get hD (by simp [Ne.symm rD])
      walk_at "r"
      intro H5 k5 h5
      exact Many.next stays_C R2 nD k3 hm hv ha k4 R4 hv4 k5 h5
    · rintro D H3 nD ⟨us, l, q', k3, hD, R3, hm, hv⟩
      walk_at "r"
      have hus := pd_chars hv
      have hll := pmany_len _ hm
      simp only [Int.toNat_natCast] at hm hll
      refine ⟨tx [], D, l.map fun c => tx [c], rfl, rfl, .inl (SqL.of (by rw [← hus]; exact hD)), ?_, ?_⟩
      · rw [List.map_map, List.length_map, tx_len]
        have : ((l.map ((fun x : Str => x.length) ∘ fun c => tx [c])).sum) = l.length := by
          clear hus hll hm hv
          induction l with
          | nil => rfl
          | cons a r ih => rw [List.map_cons, List.sum_cons, ih, List.length_cons]; show (tx [a]).length + _ = _; rw [tx_len, List.length_singleton]; omega
        rw [this]; simp; omega
      · rw [join_tx1]
        exact q1 l q' (by rw [hP]; exact hm) _ H3 (k2.trans k3) R3 rfl
theorem ok_Reader_read_mark (e : Env K mg A) : FnOk P w K mg base (L2.CX P w) 3 A.f_Reader_read_mark A.d_Reader_read_mark ["self"] (spR A pmk vM) := by
  have G_Reader_read_number := ok_Reader_read_number (P := P) (w := w) (base := base) e
  refine e.F_Reader_read_mark.okX sc_Reader_read_mark (fun vs H Q E h => ?_) (fun cdv AA outer s H vs Q E hr h => ?_)
  · obtain ⟨r, dx, d, ds, p, rfl, _⟩ := h
    rfl
  · obtain ⟨r, dx, d, ds, p, rfl, hR, hl, q1, q2⟩ := h
    refine ⟨_, (pss_cons (ps_set (i := 1) sc_Reader_read_mark.nd rfl (Or.inl rfl) (pe_meth0 (pv 0) e.c_Reader e.h_Reader_read_number G_Reader_read_number (hr.mono (by omega)) e.b_Reader_read_number .nil (passes_call (takes_of rfl rfl rfl rfl) (fun _ _ _ _ h => h))))
    (pss_one (ps_ret (pe_tup (pa_cons (pv 1) (pa_cons (pe_meth0 (pv 0) e.c_Reader e.h_Reader_read_number G_Reader_read_number (hr.mono (by omega)) e.b_Reader_read_number .nil (passes_call (takes_of rfl rfl rfl rfl) (fun _ _ _ _ h => h))) pa_nil)))))), ?_⟩
    refine enter (st_Reader_read_mark _) ?_
    walk_at "i"
    have hr1 := hR.1
    have hlk : (rdF d p).lookup ("read_number" : Str) = none := lkn (by decide +kernel) (by decide +kernel)
    walk_at "r"
    refine ⟨r, dx, d, ds, p, rfl, hR, hl, fun n q hn v H2 k2 R2 hv => ?_, fun hn H2 k2 => q2 (by unfold pmk; rw [hn]; rfl) H2 k2⟩
    cases hv
    have hr2 := R2.1
    have hlk : (rdF d q).lookup ("read_number" : Str) = none := lkn (by decide +kernel) (by decide +kernel)
    walk_at "r"
    refine ⟨r, dx, d, ds, q, rfl, R2, hl, fun m q3 hm v H3 k3 R3 hv => ?_, fun hm H3 k3 => q2 (by unfold pmk; rw [hn]; simp only [Option.bind_some]; rw [hm]; rfl) H3 (k2.trans k3)⟩
    cases hv
    walk_at "r"
    intro t H4 nt k4 ht
    walk_at "r"
    exact q1 (n, m) q3 (by unfold pmk; rw [hn]; simp only [Option.bind_some]; rw [hm]; rfl) _ H4 (k2.trans (k3.trans k4.any)) (R3.keep k4 (by simp) (by simp)) ⟨t, rfl, ht⟩
/-- a deed's parts from its removed marks on -/
def pdd5 (ds : List Int) (m : List Nat) (rm : List (Nat × Nat)) (bh : Option (Nat × Nat)) (n : Nat) (p : Nat) : Option (Dd × Nat) := (pstr ds p).map fun t => (.chg m rm bh n t.1, t.2)
def pdd4 (ds : List Int) (m : List Nat) (rm : List (Nat × Nat)) (bh : Option (Nat × Nat)) (p : Nat) : Option (Dd × Nat) := (pnum ds p).bind fun n => pdd5 ds m rm bh n.1 n.2
def pdd3 (ds : List Int) (m : List Nat) (rm : List (Nat × Nat)) (p : Nat) : Option (Dd × Nat) := (pbh ds p).bind fun bh => pdd4 ds m rm bh.1 bh.2
def pdd2 (ds : List Int) (m : List Nat) (p : Nat) : Option (Dd × Nat) := (plist pmk ds p).bind fun rm => pdd3 ds m rm.1 rm.2
theorem pdd_1 {ds : List Int} {p q : Nat} {b : Int} (h : pch ds p = some (b, q)) (h1 : b = 1) : pdd ds p = (pnum ds q).map fun y => (.back y.1, y.2) := by
  unfold pdd; rw [h]; simp only [Option.bind_some]; rw [if_pos h1]
theorem pdd_0 {ds : List Int} {p q : Nat} {b : Int} (h : pch ds p = some (b, q)) (h1 : ¬ b = 1) : pdd ds p = (pstr ds q).bind fun m => pdd2 ds m.1 m.2 := by
  unfold pdd; rw [h]; simp only [Option.bind_some]; rw [if_neg h1]; rfl
theorem pbh_1 {ds : List Int} {p q : Nat} {b : Int} (h : pch ds p = some (b, q)) (h1 : b = 1) : pbh ds p = (pmk ds q).map fun y => (some y.1, y.2) := by
  unfold pbh; rw [h]; simp only [Option.bind_some]; rw [if_pos h1]
theorem pbh_0 {ds : List Int} {p q : Nat} {b : Int} (h : pch ds p = some (b, q)) (h1 : ¬ b = 1) : pbh ds p = some (none, q) := by
  unfold pbh; rw [h]; simp only [Option.bind_some]; rw [if_neg h1]
theorem vMs.len {H : Hp} {rm : List (Nat × Nat)} {us : List V} (h : vMs H rm us) : us.length = rm.length := Paired.length h
theorem ok_Reader_read_deed (e : Env K mg A) : FnOk P w K mg base (L2.CX P w) 5 A.f_Reader_read_deed A.d_Reader_read_deed ["self"] (spR A pdd vD) := by
  have G_Reader_read_choice := ok_Reader_read_choice (P := P) (w := w) (base := base) e
  have G_Reader_read_number := ok_Reader_read_number (P := P) (w := w) (base := base) e
  have G_Reader_read_string := ok_Reader_read_string (P := P) (w := w) (base := base) e
  have G_Reader_read_count := ok_Reader_read_count (P := P) (w := w) (base := base) e
  have G_Reader_read_mark := ok_Reader_read_mark (P := P) (w := w) (base := base) e
  refine e.F_Reader_read_deed.okX sc_Reader_read_deed (fun vs H Q E h => ?_) (fun cdv AA outer s H vs Q E hr h => ?_)
  · obtain ⟨r, dx, d, ds, p, rfl, _⟩ := h
    rfl
  · obtain ⟨r, dx, d, ds, p, rfl, hR, hl, q1, q2⟩ := h
    refine ⟨_, (pss_cons (ps_if (pt_cmpR op_eq (pe_meth (pv 0) e.c_Reader e.h_Reader_read_choice G_Reader_read_choice (hr.mono (by omega)) e.b_Reader_read_choice .nil (passes_call (takes_of rfl rfl rfl rfl) (fun _ _ _ _ h => h)) (pa_cons pe_int pa_nil)) pe_int (nomark _)) (pss_one (ps_ret (pe_tup (pa_cons pe_str (pa_cons (pe_meth0 (pv 0) e.c_Reader e.h_Reader_read_number G_Reader_read_number (hr.mono (by omega)) e.b_Reader_read_number .nil (passes_call (takes_of rfl rfl rfl rfl) (fun _ _ _ _ h => h))) pa_nil))))) pss_nil)
    (pss_cons (ps_set (i := 1) sc_Reader_read_deed.nd rfl (Or.inl rfl) (pe_meth0 (pv 0) e.c_Reader e.h_Reader_read_string G_Reader_read_string (hr.mono (by omega)) e.b_Reader_read_string .nil (passes_call (takes_of rfl rfl rfl rfl) (fun _ _ _ _ h => h))))
    (pss_cons (ps_set (i := 2) sc_Reader_read_deed.nd rfl (Or.inl rfl) (pe_callTy (call_tupleLK (K := K)) (by rfl) e.n_tuple (by decide +kernel) (pa_cons (pe_lcX (own := [("_", 3)]) rfl rfl (takes_of rfl rfl rfl rfl) (by rfl) sc_Reader_read_deed.nd (pi_range1 rfl e.n_range (pa_cons (pe_meth0 (pv 0) e.c_Reader e.h_Reader_read_count G_Reader_read_count (hr.mono (by omega)) e.b_Reader_read_count .nil (passes_call (takes_of rfl rfl rfl rfl) (fun _ _ _ _ h => h))) pa_nil)) (blkOk_by (own := [("_", 3)]) (N := nm_Reader_read_deed) (sc := defScope s_Reader_read_deed) (by decide +kernel)) (fun _ _ _ _ _ => (pg_name (i := 3) sc_Reader_read_deed.nd rfl (Or.inl rfl))) (fun _ _ _ _ _ => pts_nil) (fun _ _ _ _ _ xe tkx => (pe_meth0 (pv 0) e.c_Reader e.h_Reader_read_mark G_Reader_read_mark (hr.mono (by omega)) e.b_Reader_read_mark .nil (passes_call tkx (fun _ _ _ _ h => h))))) pa_nil)))
    (pss_cons (ps_set (i := 4) sc_Reader_read_deed.nd rfl (Or.inl rfl) pe_non)
    (Evl.pss_cut (ps_if (pt_cmpR op_eq (pe_meth (pv 0) e.c_Reader e.h_Reader_read_choice G_Reader_read_choice (hr.mono (by omega)) e.b_Reader_read_choice .nil (passes_call (takes_of rfl rfl rfl rfl) (fun _ _ _ _ h => h)) (pa_cons pe_int pa_nil)) pe_int (nomark _)) (pss_one (ps_set (i := 4) sc_Reader_read_deed.nd rfl (Or.inl rfl) (pe_meth0 (pv 0) e.c_Reader e.h_Reader_read_mark G_Reader_read_mark (hr.mono (by omega)) e.b_Reader_read_mark .nil (passes_call (takes_of rfl rfl rfl rfl) (fun _ _ _ _ h => h))))) pss_nil)
    (pss_cons (ps_set (i := 5) sc_Reader_read_deed.nd rfl (Or.inl rfl) (pe_meth0 (pv 0) e.c_Reader e.h_Reader_read_number G_Reader_read_number (hr.mono (by omega)) e.b_Reader_read_number .nil (passes_call (takes_of rfl rfl rfl rfl) (fun _ _ _ _ h => h))))
    (pss_one (ps_ret (pe_tup (pa_cons pe_str (pa_cons (pv 1) (pa_cons (pv 2) (pa_cons (pv 4) (pa_cons (pv 5) (pa_cons (pe_meth0 (pv 0) e.c_Reader e.h_Reader_read_string G_Reader_read_string (hr.mono (by omega)) e.b_Reader_read_string .nil (passes_call (takes_of rfl rfl rfl rfl) (fun _ _ _ _ h => h))) pa_nil))))))))))))))), ?_⟩
    refine enter (st_Reader_read_deed _) ?_
    walk_at "i"
    have hr1 := hR.1
    have hlk_p : (rdF d p).lookup ("read_choice" : Str) = none := lkn (by decide +kernel) (by decide +kernel)
    walk_at "r"
    refine ⟨r, dx, d, ds, p, rfl, hR, fun b q hb H2 k2 R2 => ?_, fun hb H2 k2 => q2 (by unfold pdd; rw [hb]; rfl) H2 k2⟩
    walk_at "r"
    refine ite_dec (fun h1 => ?_) (fun h1 => ?_)
    · have e1 := pdd_1 hb h1
      have hr_q := R2.1
      have hlk_q : (rdF d q).lookup ("read_number" : Str) = none := lkn (by decide +kernel) (by decide +kernel)
      walk_at "r"
      refine ⟨r, dx, d, ds, q, rfl, R2, hl, fun n q3 hn v H3 k3 R3 hv => ?_, fun hn H3 k3 => q2 (by rw [e1, hn]; rfl) H3 (k2.trans k3)⟩
      cases hv
      walk_at "r"
      intro t H4 nt k4 ht
      walk_at "r"
      exact q1 (.back n) q3 (by rw [e1, hn]; rfl) _ H4 (k2.trans (k3.trans k4.any)) (R3.keep k4 (by simp) (by simp)) ⟨t, rfl, ht⟩
    have e1 := pdd_0 hb h1
    have hr_q := R2.1
    have hlk_q : (rdF d q).lookup ("read_string" : Str) = none := lkn (by decide +kernel) (by decide +kernel)
    walk_at "r"
    refine ⟨r, dx, d, ds, q, rfl, R2, hl, fun m q3 hm v H3 k3 R3 hv => ?_, fun hm H3 k3 => q2 (by rw [e1, hm]; rfl) H3 (k2.trans k3)⟩
    cases hv
    have e2 : pdd ds p = pdd2 ds m q3 := by rw [e1, hm]; rfl
    clear e1
    have hr_q3 := R3.1
    have hlk_q3 : (rdF d q3).lookup ("read_count" : Str) = none := lkn (by decide +kernel) (by decide +kernel)
    walk_at "r"
    refine ⟨r, dx, d, ds, q3, rfl, R3, hl, fun c q4 hc v H4 k4 R4 hv => ?_, fun hc H4 k4 => q2 (by rw [e2]; unfold pdd2 plist; rw [hc]; rfl) H4 (k2.trans (k3.trans k4))⟩
    cases hv
    have hcl := (pcnt_le hc).1
    have e3 : plist pmk ds q3 = pmany (pmk ds) c q4 := by unfold plist; rw [hc]; rfl
    have k24 := k2.trans (k3.trans k4)
    clear k2 k3 k4
    walk_at "r"
    walk_at "i"
    refine lcR1 (by omega) (by omega) (fun D i H' => Many A.C_Reader pmk vM H4 r dx d ds q4 D i H') (fun D H5 nD k5 hD => Many.start R4 k5 hD) ?_ ?_
    · rintro D i H5 nD hi ⟨us, l, q', k5, hD, R5, hmm, hv⟩
      have hul := Many.len (C := A.C_Reader) hmm hv
      have rD := ne_of_none R4.1 nD
      walk_at "i"
      have hr_q5 := R5.1
      have hlk_q5 : (rdF d q').lookup ("read_mark" : Str) = none := lkn (by decide +kernel) (by decide +kernel)
      walk_at "r"
      refine ⟨r, dx, d, ds, q', rfl, R5, hl, fun a q2' ha v H6 k6 R6 hv6 => ?_, fun ha H6 k6 => q2 (by rw [e2]; unfold pdd2; rw [e3, pmany_stop (pmk ds) hmm ha (by omega)]; rfl) H6 (k24.trans (k5.trans k6))⟩
      have hD6 := k6.get hD (by simp [Ne.symm rD])
      walk_at "r"
      intro H7 k7 h7
      exact Many.next stays_M R4 nD k5 hmm hv ha k6 R6 hv6 k7 h7
    · rintro D H5 nD ⟨us, rm, q5, k5, hD, R5, hmm, hv⟩
      have hus : us.length ≤ 1000000 := by rw [Many.len (C := A.C_Reader) hmm hv]; omega
      simp only [Int.toNat_natCast] at hmm
      rw [← e3] at hmm
      have e4 : pdd ds p = pdd3 ds m rm q5 := by rw [e2]; unfold pdd2; rw [hmm]; rfl
      clear e2 e3
      have k25 := k24.trans k5
      walk_at "r"
      intro t H6 nt k6 ht
      have R6 := R5.keep k6 (by simp) (by simp)
      have hv6 : vMs H6 rm us := vMs.keep hv k6
      have k26 : Keep [r] H H6 := k25.trans k6.any
      clear hv k5 k6 k24 k25 R4 R5 hD nD
      have hr_q5 := R6.1
      have hlk_q5 : (rdF d q5).lookup ("read_choice" : Str) = none := lkn (by decide +kernel) (by decide +kernel)
      walk_at "r"
      refine s_cut (fun σ' H' => ∃ (bh : Option (Nat × Nat)) (q6 : Nat) (bv : V) (v3 : Option V), σ' = [some (.ref r), some (.str (tx m)), some (.ref t), v3, some bv, none] ∧ Keep [r] H6 H' ∧ RdAt A.C_Reader H' r dx d ds q6 ∧ vB H' bh bv ∧ pbh ds q5 = some (bh, q6)) ?_ ?_
      · walk_at "r"
        refine ⟨r, dx, d, ds, q5, rfl, R6, fun b q6 hb H7 k7 R7 => ?_, fun hb H7 k7 => q2 (by rw [e4]; unfold pdd3 pbh; rw [hb]; rfl) H7 (k26.trans k7)⟩
        walk_at "r"
        refine ite_dec (fun h1 => ?_) (fun h1 => ?_)
        · have e5 := pbh_1 hb h1
          have hr_q6 := R7.1
          have hlk_q6 : (rdF d q6).lookup ("read_mark" : Str) = none := lkn (by decide +kernel) (by decide +kernel)
          walk_at "r"
          refine ⟨r, dx, d, ds, q6, rfl, R7, hl, fun mk q7 hk v H8 k8 R8 hv => ?_, fun hk H8 k8 => q2 (by rw [e4]; unfold pdd3; rw [e5, hk]; rfl) H8 (k26.trans (k7.trans k8))⟩
          walk_at "r"
          exact ⟨some mk, q7, v, _, rfl, k7.trans k8, R8, hv, by rw [e5, hk]; rfl⟩
        · walk_at "r"
          exact ⟨none, q6, .non, _, rfl, k7, R7, rfl, pbh_0 hb h1⟩
      · rintro σ' H7 ⟨bh, q6, bv, v3, rfl, k7, R7, hB, hb⟩
        have e5 : pdd ds p = pdd4 ds m rm bh q6 := by rw [e4]; unfold pdd3; rw [hb]; rfl
        clear e4
        have hr_q6 := R7.1
        have hlk_q6 : (rdF d q6).lookup ("read_number" : Str) = none := lkn (by decide +kernel) (by decide +kernel)
        walk_at "r"
        refine ⟨r, dx, d, ds, q6, rfl, R7, hl, fun n q7 hn v H8 k8 R8 hv => ?_, fun hn H8 k8 => q2 (by rw [e5]; unfold pdd4; rw [hn]; rfl) H8 (k26.trans (k7.trans k8))⟩
        cases hv
        have e6 : pdd ds p = pdd5 ds m rm bh n q7 := by rw [e5]; unfold pdd4; rw [hn]; rfl
        clear e5
        have hr_q7 := R8.1
        have hlk_q7 : (rdF d q7).lookup ("read_string" : Str) = none := lkn (by decide +kernel) (by decide +kernel)
        walk_at "r"
        refine ⟨r, dx, d, ds, q7, rfl, R8, hl, fun tt q8 ht2 v H9 k9 R9 hv => ?_, fun ht2 H9 k9 => q2 (by rw [e6]; unfold pdd5; rw [ht2]; rfl) H9 (k26.trans (k7.trans (k8.trans k9)))⟩
        cases hv
        walk_at "r"
        intro a H10 na k10 ha
        walk_at "r"
        have k710 := k7.trans (k8.trans (k9.trans k10.any))
        exact q1 (.chg m rm bh n tt) q8 (by rw [e6]; unfold pdd5; rw [ht2]; rfl) _ H10 (k26.trans k710) (R9.keep k10 (by simp) (by simp)) ⟨a, t, us, bv, rfl, ha, k710.2 _ _ ht, vMs.keep hv6 k710, vB.keep hB (k8.trans (k9.trans k10.any))⟩
theorem ok_Reader_read_triple (e : Env K mg A) : FnOk P w K mg base (L2.CX P w) 6 A.f_Reader_read_triple A.d_Reader_read_triple ["self"] (spR A ptr vT) := by
  have G_Reader_read_number := ok_Reader_read_number (P := P) (w := w) (base := base) e
  have G_Reader_read_deed := ok_Reader_read_deed (P := P) (w := w) (base := base) e
  refine e.F_Reader_read_triple.okX sc_Reader_read_triple (fun vs H Q E h => ?_) (fun cdv AA outer s H vs Q E hr h => ?_)
  · obtain ⟨r, dx, d, ds, p, rfl, _⟩ := h
    rfl
  · obtain ⟨r, dx, d, ds, p, rfl, hR, hl, q1, q2⟩ := h
    refine ⟨_, (pss_cons (ps_set (i := 1) sc_Reader_read_triple.nd rfl (Or.inl rfl) (pe_meth0 (pv 0) e.c_Reader e.h_Reader_read_number G_Reader_read_number (hr.mono (by omega)) e.b_Reader_read_number .nil (passes_call (takes_of rfl rfl rfl rfl) (fun _ _ _ _ h => h))))
    (pss_cons (ps_set (i := 2) sc_Reader_read_triple.nd rfl (Or.inl rfl) (pe_meth0 (pv 0) e.c_Reader e.h_Reader_read_number G_Reader_read_number (hr.mono (by omega)) e.b_Reader_read_number .nil (passes_call (takes_of rfl rfl rfl rfl) (fun _ _ _ _ h => h))))
    (pss_one (ps_ret (pe_tup (pa_cons (pv 1) (pa_cons (pv 2) (pa_cons (pe_meth0 (pv 0) e.c_Reader e.h_Reader_read_deed G_Reader_read_deed (hr.mono (by omega)) e.b_Reader_read_deed .nil (passes_call (takes_of rfl rfl rfl rfl) (fun _ _ _ _ h => h))) pa_nil)))))))), ?_⟩
    refine enter (st_Reader_read_triple _) ?_
    walk_at "i"
    have hr1 := hR.1
    have hlk_p : (rdF d p).lookup ("read_number" : Str) = none := lkn (by decide +kernel) (by decide +kernel)
    walk_at "r"
    refine ⟨r, dx, d, ds, p, rfl, hR, hl, fun n q hn v H2 k2 R2 hv => ?_, fun hn H2 k2 => q2 (by unfold ptr; rw [hn]; rfl) H2 k2⟩
    cases hv
    have hr_q := R2.1
    have hlk_q : (rdF d q).lookup ("read_number" : Str) = none := lkn (by decide +kernel) (by decide +kernel)
    walk_at "r"
    refine ⟨r, dx, d, ds, q, rfl, R2, hl, fun m q3 hm v H3 k3 R3 hv => ?_, fun hm H3 k3 => q2 (by unfold ptr; rw [hn]; simp only [Option.bind_some]; rw [hm]; rfl) H3 (k2.trans k3)⟩
    cases hv
    have hr_q3 := R3.1
    have hlk_q3 : (rdF d q3).lookup ("read_deed" : Str) = none := lkn (by decide +kernel) (by decide +kernel)
    walk_at "r"
    refine ⟨r, dx, d, ds, q3, rfl, R3, hl, fun dd q4 hd v H4 k4 R4 hv => ?_, fun hd H4 k4 => q2 (by unfold ptr; rw [hn]; simp only [Option.bind_some]; rw [hm]; simp only [Option.bind_some]; rw [hd]; rfl) H4 (k2.trans (k3.trans k4))⟩
    walk_at "r"
    intro t H5 nt k5 ht
    walk_at "r"
    exact q1 ⟨n, m, dd⟩ q4 (by unfold ptr; rw [hn]; simp only [Option.bind_some]; rw [hm]; simp only [Option.bind_some]; rw [hd]; rfl) _ H5 (k2.trans (k3.trans (k4.trans k5.any))) (R4.keep k5 (by simp) (by simp)) ⟨t, v, rfl, ht, vD.keep hv k5⟩
theorem ok_Reader_read_triples (e : Env K mg A) : FnOk P w K mg base (L2.CX P w) 7 A.f_Reader_read_triples A.d_Reader_read_triples ["self"] (spR A ptrs vTl) := by
  have G_Reader_read_count := ok_Reader_read_count (P := P) (w := w) (base := base) e
  have G_Reader_read_triple := ok_Reader_read_triple (P := P) (w := w) (base := base) e
  refine e.F_Reader_read_triples.okX sc_Reader_read_triples (fun vs H Q E h => ?_) (fun cdv AA outer s H vs Q E hr h => ?_)
  · obtain ⟨r, dx, d, ds, p, rfl, _⟩ := h
    rfl
  · obtain ⟨r, dx, d, ds, p, rfl, hR, hl, q1, q2⟩ := h
    refine ⟨_, (pss_one (ps_ret (pe_lcX (own := [("_", 1)]) rfl rfl (takes_of rfl rfl rfl rfl) (by rfl) sc_Reader_read_triples.nd (pi_range1 rfl e.n_range (pa_cons (pe_meth0 (pv 0) e.c_Reader e.h_Reader_read_count G_Reader_read_count (hr.mono (by omega)) e.b_Reader_read_count .nil (passes_call (takes_of rfl rfl rfl rfl) (fun _ _ _ _ h => h))) pa_nil)) (blkOk_by (own := [("_", 1)]) (N := nm_Reader_read_triples) (sc := defScope s_Reader_read_triples) (by decide +kernel)) (fun _ _ _ _ _ => (pg_name (i := 1) sc_Reader_read_triples.nd rfl (Or.inl rfl))) (fun _ _ _ _ _ => pts_nil) (fun _ _ _ _ _ xe tkx => (pe_meth0 (pv 0) e.c_Reader e.h_Reader_read_triple G_Reader_read_triple (hr.mono (by omega)) e.b_Reader_read_triple .nil (passes_call tkx (fun _ _ _ _ h => h))))))), ?_⟩
    refine enter (st_Reader_read_triples _) ?_
    walk_at "i"
    have hr1 := hR.1
    have hlk_p : (rdF d p).lookup ("read_count" : Str) = none := lkn (by decide +kernel) (by decide +kernel)
    walk_at "r"
    refine ⟨r, dx, d, ds, p, rfl, hR, hl, fun c q hc v H2 k2 R2 hv => ?_, fun hc H2 k2 => q2 (by unfold ptrs plist; rw [hc]; rfl) H2 k2⟩
    cases hv
    have hcl := (pcnt_le hc).1
    have e1 : ptrs ds p = pmany (ptr ds) c q := by unfold ptrs plist; rw [hc]; rfl
    walk_at "r"
    walk_at "i"
    refine lcR1 (by omega) (by omega) (fun D i H' => Many A.C_Reader ptr vT H2 r dx d ds q D i H') (fun D H3 nD k3 hD => Many.start R2 k3 hD) ?_ ?_
    · rintro D i H3 nD hi ⟨us, l, q', k3, hD, R3, hm, hv⟩
      have hr3 := R3.1
      have hul := Many.len (C := A.C_Reader) hm hv
      have rD := ne_of_none R2.1 nD
      walk_at "i"
      have hlk : (rdF d q').lookup ("read_triple" : Str) = none := lkn (by decide +kernel) (by decide +kernel)
      walk_at "r"
      refine ⟨r, dx, d, ds, q', rfl, R3, hl, fun a q2' ha v H4 k4 R4 hv4 => ?_, fun ha H4 k4 => q2 (by rw [e1]; exact pmany_stop (ptr ds) hm ha (by omega)) H4 (k2.trans (k3.trans k4))⟩
      have hD4 := k4.get hD (by simp [Ne.symm rD])
      walk_at "r"
      intro H5 k5 h5
      exact Many.next stays_T R2 nD k3 hm hv ha k4 R4 hv4 k5 h5
    · rintro D H3 nD ⟨us, l, q', k3, hD, R3, hm, hv⟩
      walk_at "r"
      simp only [Int.toNat_natCast] at hm
      exact q1 l q' (by rw [e1]; exact hm) _ H3 (k2.trans k3) R3 ⟨D, us, rfl, hD, hv⟩
theorem ok_Reader_read_packet (e : Env K mg A) : FnOk P w K mg base (L2.CX P w) 8 A.f_Reader_read_packet A.d_Reader_read_packet ["self"] (spR A ppk vTl) := by
  have G_Reader_read_byte := ok_Reader_read_byte (P := P) (w := w) (base := base) e
  have G_Reader_read_triples := ok_Reader_read_triples (P := P) (w := w) (base := base) e
  refine e.F_Reader_read_packet.okX sc_Reader_read_packet (fun vs H Q E h => ?_) (fun cdv AA outer s H vs Q E hr h => ?_)
  · obtain ⟨r, dx, d, ds, p, rfl, _⟩ := h
    rfl
  · obtain ⟨r, dx, d, ds, p, rfl, hR, hl, q1, q2⟩ := h
    refine ⟨_, (pss_cons (ps_if (pt_cmpR op_ne (pe_meth0 (pv 0) e.c_Reader e.h_Reader_read_byte G_Reader_read_byte (hr.mono (by omega)) e.b_Reader_read_byte .nil (passes_call (takes_of rfl rfl rfl rfl) (fun _ _ _ _ h => h))) pe_int (nomark _)) (pss_one (ps_raise1 rfl (takes_of rfl rfl rfl rfl) PySem.F.excBase_ValueError e.xx_DamagedPacket e.m_DamagedPacket e.kk_DamagedPacket (raises_own e.bb_DamagedPacket e.tt_DamagedPacket) (by rfl))) pss_nil)
    (pss_one (ps_ret (pe_meth0 (pv 0) e.c_Reader e.h_Reader_read_triples G_Reader_read_triples (hr.mono (by omega)) e.b_Reader_read_triples .nil (passes_call (takes_of rfl rfl rfl rfl) (fun _ _ _ _ h => h)))))), ?_⟩
    refine enter (st_Reader_read_packet _) ?_
    walk_at "i"
    have hr1 := hR.1
    have hlk_p : (rdF d p).lookup ("read_byte" : Str) = none := lkn (by decide +kernel) (by decide +kernel)
    walk_at "r"
    refine ⟨r, dx, d, ds, p, rfl, hR, fun hp H2 k2 R2 => ?_, fun hp => q2 (by unfold ppk; rw [pbyte_no hp]; rfl) H Keep.refl⟩
    have e1 : ppk ds p = if ds.getD p 0 = 1 then ptrs ds (p + 1) else none := by unfold ppk; rw [pbyte_yes hp]; rfl
    walk_at "r"
    refine ite_ndec (fun h2 => ?_) (fun h2 => ?_)
    · walk_at "r"
      exact q2 (by rw [e1, if_neg h2]) H2 k2
    · rw [if_pos h2] at e1
      have hr2 := R2.1
      have hlk2 : (rdF d (p + 1)).lookup ("read_triples" : Str) = none := lkn (by decide +kernel) (by decide +kernel)
      walk_at "r"
      exact ⟨r, dx, d, ds, p + 1, rfl, R2, hl, fun ts q ht v H3 k3 R3 hv => q1 ts q (by rw [e1, ht]) v H3 (k2.trans k3) R3 hv, fun ht H3 k3 => q2 (by rw [e1, ht]) H3 (k2.trans k3)⟩
end My

end
section
set_option maxHeartbeats 4000000
local macro_rules | `(tactic| walk_at "k") => `(tactic| first
  | assumption
  | exact W.Keep.trans (by assumption) (by assumption)
  | exact And.intro (by grind [W.Keep, W.Kp]) (by grind [W.Keep, W.Kt])
  | grind [W.Keep, W.Kp])
local macro_rules | `(tactic| walk_at "f") => `(tactic| first
  | assumption
  | exact L2.SqL.of (by assumption)
  | exact L2.SqT.of (by assumption)
  | exact L2.SqL.of L2.upd_same
  | exact L2.SqT.of L2.upd_same
  | exact L2.upd_same
  | exact W.carryL (by assumption) (by assumption)
  | exact W.carryL (by assumption) (by walk_at "k")
  | exact W.carryT (by assumption) (by walk_at "k")
  | exact W.carry (by assumption) (by grind [W.Keep, W.Kp])
  | exact L2.SqL.of (W.carry (by assumption) (by grind [W.Keep, W.Kp]))
  | exact L2.SqT.of (W.carry (by assumption) (by grind [W.Keep, W.Kp])))
local macro_rules | `(tactic| walk_at "a") => `(tactic| first
  | assumption
  | rfl)
local macro_rules | `(tactic| walk_at "n") => `(tactic| first
  | assumption
  | exact Nat.zero_le _
  | decide
  | (simp only [List.length_cons, List.length_nil]; decide)
  | omega
  | (simp only [PySem.sizeLine_eq]; omega)
  | (simp only [List.length_map, List.length_append, List.length_cons, List.length_nil, PySem.sizeLine_eq]; omega)
  | (simp only [List.length_map, List.length_append, List.length_cons, List.length_nil, List.length_take, List.length_drop, PySem.sizeLine_eq]; omega)
  | (simp only [List.length_map, List.length_append, List.length_cons, List.length_nil, PySem.sizeLine_eq] at *; omega))
local macro_rules | `(tactic| walk_at "c") => `(tactic| first
  | assumption
  | decide
  | exact And.intro (by decide) (by decide)
  | exact Or.inr (And.intro (by decide) (by decide))
  | exact Or.inl (And.intro (by decide) (by decide))
  | exact And.intro (by decide) (And.intro (by decide) (by decide))
  | exact (show (0 : Int) < _ by decide)
  | exact And.intro (by omega) (by omega)
  | exact Or.inl (And.intro (by omega) (by omega))
  | exact Or.inr (And.intro (by omega) (by omega))
  | exact (show (0 : Int) < _ by omega))
local macro_rules | `(tactic| walk_at "v") => `(tactic| with_reducible first
  | refine W.v0 ?_ | refine W.v1 ?_ | refine W.v2 ?_ | refine W.v3 ?_ | refine W.v4 ?_ | refine W.v5 ?_ | refine W.v6 ?_ | refine W.v7 ?_ | refine W.v8 ?_
  | refine W.v9 ?_ | refine W.v10 ?_ | refine W.v11 ?_ | refine W.v12 ?_ | refine W.v13 ?_ | refine W.v14 ?_ | refine W.v15 ?_ | refine W.v16 ?_ | refine W.v17 ?_
  | refine W.g0 ?_ | refine W.g1 ?_ | refine W.g2 ?_ | refine W.g3 ?_ | refine W.g4 ?_ | refine W.g5 ?_ | refine W.g6 ?_ | refine W.g7 ?_ | refine W.g8 ?_
  | refine W.g9 ?_ | refine W.g10 ?_ | refine W.g11 ?_ | refine W.g12 ?_ | refine W.g13 ?_ | refine W.g14 ?_ | refine W.g15 ?_)
local macro_rules | `(tactic| walk_at "e") => `(tactic| with_reducible first
  | refine W.e_c ?_ | refine W.e_op ?_ | refine W.s_seq ?_ | refine W.s_asg ?_ | refine W.e_CB ?_ | refine W.a_cons ?_ | refine W.a_nil ?_ | refine W.e_call ?_
  | refine W.t_test ?_ | refine W.w_B ?_ | refine W.s_if ?_ | refine W.s_ret ?_ | refine W.s_drop ?_ | refine W.e_un ?_ | refine W.e_fld ?_ | refine W.s_fld ?_
  | refine W.e_meth ?_ | refine W.e_if ?_ | refine W.e_lst ?_ | refine W.e_tup ?_ | refine W.e_sl ?_ | refine W.o_none ?_ | refine W.o_some ?_ | refine W.w_part ?_
  | refine W.e_bm ?_ | refine W.e_bm0 ?_ | refine W.t_B ?_ | refine W.t_and ?_ | refine W.t_or ?_ | refine W.t_not ?_ | refine W.e_andV ?_ | refine W.e_orV ?_ | refine W.e_notV ?_ | refine W.w_BV ?_ | refine W.e_chain ?_
  | refine W.s_aug ?_ | refine W.s_augS ?_ | refine W.s_next ?_ | refine W.s_brk ?_ | refine W.s_cont ?_ | refine W.s_retN ?_ | refine W.s_fa ?_ | refine W.e_make ?_ | refine W.w_make ?_
  | refine W.w_I0 ?_ | refine W.w_U ?_ | refine W.w_aug ?_ | refine W.w_eqI ?_ | refine W.w_neI ?_ | refine W.w_eqS ?_ | refine W.w_neS ?_ | refine W.w_eqB ?_ | refine W.w_neB ?_
  | refine W.w_int ?_ | refine W.w_intB ?_ | refine W.w_min ?_ | refine W.w_max ?_ | refine W.w_isN ?_ | refine W.w_isI ?_ | refine W.w_isS ?_ | refine W.w_isB ?_ | refine W.w_isR ?_
  | refine W.w_notN ?_ | refine W.w_notI ?_ | refine W.w_notR ?_ | refine W.w_notS ?_ | refine W.w_eqNI ?_ | refine W.w_neNI ?_ | refine W.w_eqN ?_ | refine W.w_neN ?_
  | refine W.s_forL ?_ | refine W.s_forT ?_ | refine W.s_forS ?_ | refine W.s_forR1 ?_ | refine W.s_forR2 ?_ | refine W.s_forR3 ?_ | refine W.s_forZ ?_ | refine W.s_forE ?_
  | refine W.e_lcL ?_ | refine W.e_lcT ?_ | refine W.w_ord ?_ | refine W.e_lcR1 ?_ | refine W.e_lcR2 ?_ | refine W.e_lcZ ?_ | refine W.e_lcS ?_ | refine W.t_yes ?_ | refine W.w_gcons ?_ | refine W.w_gnil ?_ | refine W.s_par ?_ | refine W.w_par ?_ | refine W.g_sub ?_ | refine W.e_m1 ?_ | refine W.w_strR ?_ | refine W.w_rAdd ?_ | refine W.w_rSub ?_ | refine W.s_raise ?_ | refine W.s_try ?_ | refine W.e_methS ?_)
local macro_rules | `(tactic| walk_at "w") => `(tactic| first
  | ((with_reducible refine' W.w_I ?wh ?wq); (case wh => walk_at "c"))
  | ((with_reducible refine' W.w_ixL (n := 0) ?wh ?we ?wq); (case wh => walk_at "f"); (case we => walk_at "a"))
  | ((with_reducible refine' W.w_ixT (n := 0) ?wh ?we ?wq); (case wh => walk_at "f"); (case we => walk_at "a"))
  | ((with_reducible refine' W.w_lenL ?wh ?wq); (case wh => walk_at "f"))
  | ((with_reducible refine' W.w_lenT ?wh ?wq); (case wh => walk_at "f"))
  | ((with_reducible refine' W.w_lenS ?wh ?wq); (case wh => walk_at "n"))
  | ((with_reducible refine' W.w_app ?wh ?we ?wq); (case wh => walk_at "f"); (case we => walk_at "n"))
  | ((with_reducible refine' W.w_meth ?wh ?we ?wq); (case wh => walk_at "f"); (case we => first | assumption | rfl))
  | ((with_reducible refine' W.w_ixLTl ?wh ?we ?wq); (case wh => walk_at "f"); (case we => walk_at "a"))
  | ((with_reducible refine' W.w_ixLTt ?wh ?we ?wq); (case wh => walk_at "f"); (case we => walk_at "a"))
  | ((with_reducible refine' W.w_addS ?wh ?wq); (case wh => walk_at "n"))
  | ((with_reducible refine' W.w_set ?wh ?we ?wq); (case wh => walk_at "f"); (case we => walk_at "a"))
  | ((with_reducible refine' W.w_tup ?wh ?we ?wq); (case wh => walk_at "f"); (case we => first | assumption | rfl))
  | ((with_reducible refine' W.w_slS ?wh ?wq); (case wh => walk_at "n"))
  | ((with_reducible refine' W.w_rApp ?wh ?we ?wq); (case wh => walk_at "f"); (case we => walk_at "n"))
  | ((with_reducible refine' W.w_newL ?wh ?wq); (case wh => walk_at "n"))
  | ((with_reducible refine' W.w_newT ?wh ?wq); (case wh => walk_at "n"))
  | ((with_reducible refine' W.w_listL ?wh ?wq); (case wh => walk_at "f"))
  | ((with_reducible refine' W.w_tupL ?wh ?wq); (case wh => walk_at "f"))
  | ((with_reducible refine' W.w_slL ?wh ?wq); (case wh => walk_at "f"))
  | ((with_reducible refine' W.w_cat ?wh ?wf ?we ?wq); (case wh => walk_at "f"); (case wf => walk_at "f"); (case we => walk_at "n"))
  | ((with_reducible refine' W.w_catT ?wh ?wf ?wx ?wy ?we ?wq); (case wh => walk_at "f"); (case wf => walk_at "f"); (case wx => exact List.cons_ne_nil _ _); (case wy => exact List.cons_ne_nil _ _); (case we => walk_at "n"))
  | ((with_reducible refine' W.w_ext ?wh ?wf ?we ?wq); (case wh => walk_at "f"); (case wf => walk_at "f"); (case we => walk_at "n"))
  | ((with_reducible refine' W.w_recv ?wh ?wq); (case wh => walk_at "f"))
  | ((with_reducible refine' W.w_isi1 ?wh ?we ?wq); (case wh => assumption); (case we => decide +kernel))
  | ((with_reducible refine' W.w_isi0 ?wh ?we ?wq); (case wh => assumption); (case we => decide +kernel))
  | ((with_reducible refine' W.w_isiT10 ?wh ?wf ?we ?wg ?wq); (case wh => assumption); (case wf => walk_at "f"); (case we => decide +kernel); (case wg => decide +kernel))
  | ((with_reducible refine' W.w_isiT01 ?wh ?wf ?we ?wg ?wq); (case wh => assumption); (case wf => walk_at "f"); (case we => decide +kernel); (case wg => decide +kernel))
  | ((with_reducible refine' W.w_isiT00 ?wh ?wf ?we ?wg ?wq); (case wh => assumption); (case wf => walk_at "f"); (case we => decide +kernel); (case wg => decide +kernel))
  | ((with_reducible refine' W.w_ins ?wh ?we ?wf ?wq); (case wh => walk_at "f"); (case we => walk_at "n"); (case wf => walk_at "c"))
  | ((with_reducible refine' W.w_unl ?wh ?we ?wq); (case wh => walk_at "f"); (case we => first | assumption | rfl))
  | ((with_reducible refine' W.ite_T ?_))
  | ((with_reducible refine' W.ite_F ?_))
  | ((with_reducible refine' W.ite_nT ?_))
  | ((with_reducible refine' W.ite_nF ?_))
  | ((with_reducible refine' W.ite_self ?_))
  | ((with_reducible refine' W.ite_nself ?_))
  | ((with_reducible refine' W.ite_tf ?_))
  | ((with_reducible refine' W.ite_ft ?_))
  | ((with_reducible refine' W.ite_ntf ?_))
  | ((with_reducible refine' W.ite_nft ?_))
  | ((with_reducible refine' And.intro ?wl ?wq); (case wl => rfl)))
local macro_rules | `(tactic| walk_at "i") => `(tactic| try (dsimp only [L2.cxOf, L2.wipe, List.map, List.set]))
local macro_rules | `(tactic| walk_at "s") => `(tactic| first | walk_at "v" | walk_at "e" | walk_at "w")
local macro_rules | `(tactic| walk_at "r") => `(tactic| repeat walk_at "s")

namespace My
open PySem L2 W
variable {P : Program} {w : World} {K : PySem.W.Frag} {mg : Str → Option Value} {base : Heap} {A : Adr}
/-- lists of ints on a heap -/
def Lsts (H : Hp) (vs : List V) (rs : List (List Int)) : Prop := Paired (fun v x => ∃ t, v = V.ref t ∧ H t = some (.lst (x.map V.int))) vs rs
theorem Lsts.mono {H H' : Hp} {vs : List V} {rs : List (List Int)} (h : Lsts H vs rs) (k : Keep [] H H') : Lsts H' vs rs := Paired.mapP h fun _ _ ⟨t, e, q⟩ => ⟨t, e, k.get q (by simp)⟩
theorem Lsts.mut {H H' : Hp} {p : Addr} : ∀ {vs : List V} {rs : List (List Int)}, H p = some (.lst vs) → Keep [p] H H' → Lsts H vs rs → Lsts H' vs rs := by
  intro vs rs hp k h
  have n : vs ≠ [] → ∀ x : List Int, vs ≠ x.map V.int := by
    intro hv x e
    unfold Lsts at h
    cases h with
    | nil => exact hv rfl
    | cons hd _ =>
      obtain ⟨t, rfl, _⟩ := hd
      cases x with
      | nil => cases e
      | cons y r => cases e
  by_cases hv : vs = []
  · subst hv
    unfold Lsts at h ⊢
    cases h
    exact .nil
  · exact Paired.mapP h fun _ _ ⟨t, e, q⟩ => ⟨t, e, k.get q (by
      intro z; simp at z; subst z; rw [hp] at q; cases q; exact n hv _ rfl)⟩
theorem Lsts.len {H : Hp} {vs : List V} {rs : List (List Int)} (h : Lsts H vs rs) : vs.length = rs.length := Paired.length h
/-- numbers written -/
def sp_wn (K : PySem.W.Frag) : Sp := fun vs H Q _ => ∃ n : Nat, vs = [.int (n : Int)] ∧ n < 128 ^ 60 ∧ ∀ p H', H p = none → Keep [] H H' → H' p = some (.lst ((wn n).map V.int)) → Q (.ref p) H'
theorem ok_write_number (e : Env K mg A) : FnOk P w K mg base CX0 1 A.f_write_number A.d_write_number ["number"] (sp_wn K) := by
  refine e.F_write_number.ok sc_write_number (fun vs H Q E h => ?_) (fun cdv AA outer s H vs Q E hr h => ?_)
  · obtain ⟨n, rfl, _⟩ := h
    rfl
  · obtain ⟨n, rfl, hn, q⟩ := h
    refine ⟨_, (pss_cons (ps_set (i := 1) sc_write_number.nd rfl (Or.inl rfl) (pe_lst pa_nil))
    (pss_cons (ps_while PassesOwn.never (pt_cmpR op_ge (pv 0) pe_int (nomark _)) (pss_cons (ps_expr (pe_bmK (K := K) PySem.F.plainAttrs_list PySem.F.slot_list_append PySem.F.type_list_append mt_append (pv 1) (pa_cons (pe_op op_add (pe_op op_mod (pv 0) pe_int) pe_int) pa_nil)))
    (pss_one (ps_set (i := 0) sc_write_number.nd rfl (Or.inl rfl) (pe_op op_fdiv (pv 0) pe_int)))))
    (pss_one (ps_ret (pe_op op_cat (pv 1) (pe_lst (pa_cons (pv 0) pa_nil))))))), ?_⟩
    refine enter (st_write_number _) ?_
    walk_at "i"
    walk_at "r"
    intro p H1 np k1 hp
    walk_at "r"
    have hlen := wn_len 59 n hn
    refine while_ (fun m σ H' => ∃ (xs : List Int), σ = [some (.int (m : Int)), some (.ref p)] ∧ Keep [] H H' ∧ H' p = some (.lst (xs.map V.int)) ∧ wn n = xs ++ wn m) n ⟨[], rfl, k1, hp, rfl⟩ ?_
    rintro m σ H2 ⟨xs, rfl, k2, h2, hw⟩
    have hxl : xs.length ≤ 60 := by have := congrArg List.length hw; rw [List.length_append] at this; omega
    walk_at "r"
    refine ite_dec (fun hm => ?_) (fun hm => ?_)
    · refine turn ?_
      walk_at "r"
      intro H3 k3 h3
      walk_at "r"
      refine ⟨m / 128, by omega, xs ++ [((m % 128 + 128 : Nat) : Int)], ?_, k2.mut np k3, ?_, ?_⟩
      · rw [show ((m / 128 : Nat) : Int) = (m : Int) / 128 by omega]
      · rw [h3, List.map_append, show ((m % 128 + 128 : Nat) : Int) = (m : Int) % 128 + 128 by omega]; rfl
      · rw [hw, wn_hi (by omega)]; simp
    · walk_at "r"
      intro a H3 na k3 ha
      walk_at "r"
      have hp3 := k3.get h2 (by simp)
      intro c H4 nc k4 hc
      walk_at "r"
      refine q c H4 ?_ (k2.trans (k3.trans k4)) ?_
      · exact (k2.trans k3).free nc (by simp)
      · rw [hc, hw, wn_lo (by omega), List.map_append]; rfl
/-- lists written -/
def sp_wl (K : PySem.W.Frag) : Sp := fun vs H Q _ => ∃ (a : Addr) (us : List V) (xs : List (List Int)), vs = [.ref a] ∧ H a = some (.lst us) ∧ Lsts H us xs ∧ xs.length ≤ 10000000 ∧ (wl xs).length ≤ 10000000 ∧
  ∀ p H', H p = none → Keep [] H H' → H' p = some (.lst ((wl xs).map V.int)) → Q (.ref p) H'
theorem lt60' {n : Nat} (h : n ≤ 10000000) : n < 128 ^ 60 := Nat.lt_of_le_of_lt h (by decide)
theorem take_flat_len (xs : List (List Int)) (i : Nat) : (xs.take i).flatten.length ≤ xs.flatten.length := by
  conv => rhs; rw [← List.take_append_drop i xs]
  rw [List.flatten_append, List.length_append]; omega
theorem ok_write_list (e : Env K mg A) : FnOk P w K mg base CX0 2 A.f_write_list A.d_write_list ["items"] (sp_wl K) := by
  have G_write_number := ok_write_number (P := P) (w := w) (base := base) e
  refine e.F_write_list.ok sc_write_list (fun vs H Q E h => ?_) (fun cdv AA outer s H vs Q E hr h => ?_)
  · obtain ⟨a, us, xs, rfl, _⟩ := h
    rfl
  · obtain ⟨a, us, xs, rfl, ha, hL, hxl, hwl, q⟩ := h
    have hus := hL.len
    refine ⟨_, (pss_cons (ps_set (i := 1) sc_write_list.nd rfl (Or.inl rfl) (pe_call G_write_number (hr.mono (by omega)) (by rfl) e.m_write_number e.k_write_number e.b_write_number .nil pass0 (pa_cons (pe_callB (call_lenLK (K := K)) (by rfl) e.n_len (by decide +kernel) (pa_cons (pv 0) pa_nil)) pa_nil)))
    (pss_cons (ps_for PassesOwn.never rfl (pi_listK (K := K) (pv 0)) (pg_name (i := 2) sc_write_list.nd rfl (Or.inl rfl)) (pss_one (ps_expr (pe_bmK (K := K) PySem.F.plainAttrs_list PySem.F.slot_list_extend PySem.F.type_list_extend mt_extend (pv 1) (pa_cons (pv 2) pa_nil)))))
    (pss_one (ps_ret (pv 1))))), ?_⟩
    refine enter (st_write_list _) ?_
    walk_at "i"
    walk_at "r"
    rw [hus]
    refine ⟨xs.length, rfl, lt60' hxl, fun p H1 np k1 hp => ?_⟩
    walk_at "r"
    have ha1 := k1.get ha (by simp)
    have nap := ne_of_none ha np
    refine forL (SqL.of ha1) (fun i σ H' => ∃ v, σ = [some (.ref a), some (.ref p), v] ∧ Keep [] H H' ∧ H' p = some (.lst ((wn xs.length ++ (xs.take i).flatten).map V.int))) ⟨_, rfl, k1, by simpa using hp⟩ (fun i σ H' _ h => ?_) ?_ ?_
    · obtain ⟨_, _, k, _⟩ := h
      exact SqL.of (k.get ha (by simp))
    · rintro i x σ H' hx ⟨v, rfl, k2, hp2⟩
      obtain ⟨y, hy, t, rfl, ht⟩ := pd_get hL hx
      have ht2 := k2.get ht (by simp)
      have hsz : (wn xs.length ++ (xs.take i).flatten).length + y.length ≤ 10000000 := by
        have h1 := take_flat_len xs (i + 1)
        rw [List.take_add_one, hy] at h1
        simp only [Option.toList, List.flatten_append, List.flatten_cons, List.flatten_nil, List.append_nil, List.length_append] at h1
        unfold wl at hwl
        simp only [List.length_append] at hwl ⊢
        omega
      walk_at "r"
      intro H3 k3 h3
      walk_at "r"
      refine ⟨_, rfl, k2.mut np k3, ?_⟩
      rw [h3, List.take_add_one, hy]
      simp
    · rintro σ H' ⟨v, rfl, k2, hp2⟩
      walk_at "r"
      rw [hus, List.take_length] at hp2
      exact q p H' np k2 hp2
def sp_ws (K : PySem.W.Frag) : Sp := fun vs H Q _ => ∃ s : List Nat, vs = [.str (tx s)] ∧ oks s ∧ (ws s).length ≤ 10000000 ∧ ∀ p H', H p = none → Keep [] H H' → H' p = some (.lst ((ws s).map V.int)) → Q (.ref p) H'
theorem okch_lt {c : Nat} (h : okch c = true) : c < 127 := by unfold okch at h; simp at h; omega
theorem tx_get {s : List Nat} {i c : Nat} (h : (tx s).cps[i]? = some c) : s[i]? = some c := by simpa [tx] using h
theorem tx_size (s : List Nat) : (tx s).cps.size = s.length := by simp [tx]
theorem ok_write_string (e : Env K mg A) : FnOk P w K mg base CX0 3 A.f_write_string A.d_write_string ["text"] (sp_ws K) := by
  have G_write_number := ok_write_number (P := P) (w := w) (base := base) e
  have G_write_list := ok_write_list (P := P) (w := w) (base := base) e
  refine e.F_write_string.ok sc_write_string (fun vs H Q E h => ?_) (fun cdv AA outer s H vs Q E hr h => ?_)
  · obtain ⟨s, rfl, _⟩ := h
    rfl
  · obtain ⟨s, rfl, ho, hsz, q⟩ := h
    have hol := ho.2
    refine ⟨_, (pss_one (ps_ret (pe_call G_write_list (hr.mono (by omega)) (by rfl) e.m_write_list e.k_write_list e.b_write_list .nil pass0 (pa_cons (pe_lc (own := [("character", 1)]) (by rfl) sc_write_string.nd (pi_str (pv 0)) (blkOk_by (own := [("character", 1)]) (N := nm_write_string) (sc := defScope s_write_string) (by decide +kernel)) (fun _ _ _ _ _ => (pg_name (i := 1) sc_write_string.nd rfl (Or.inl rfl))) (fun _ _ _ _ _ => pts_nil) (fun _ _ _ _ _ => (pe_call G_write_number (hr.mono (by omega)) (by rfl) e.m_write_number e.k_write_number e.b_write_number .nil pass0 (pa_cons (pe_callB call_ordR (by rfl) e.n_ord (by decide +kernel) (pa_cons (pv 1) pa_nil)) pa_nil)))) pa_nil)))), ?_⟩
    refine enter (st_write_string _) ?_
    walk_at "i"
    walk_at "r"
    refine lcS (fun D i H' => Keep [] H H' ∧ ∃ us, H' D = some (.lst us) ∧ Lsts H' us ((s.take i).map wn)) (fun D H1 nD k1 hD => ⟨k1, [], hD, by rw [List.take_zero]; exact Paired.nil⟩) ?_ ?_
    · rintro D i c H1 nD hc ⟨k1, us, hD, hL⟩
      have hc := tx_get hc
      have hil : i < s.length := (List.getElem?_eq_some_iff.mp hc).1
      have hcl := okch_lt (ho.1 c (List.mem_of_getElem? hc))
      have hul := hL.len
      rw [List.length_map, List.length_take] at hul
      walk_at "i"
      walk_at "r"
      refine ⟨c, rfl, Nat.lt_trans hcl (by decide), fun p H2 np k2 hp => ?_⟩
      have hD2 := k2.get hD (by simp)
      have npD := ne_of_none hD np
      walk_at "r"
      intro H3 k3 h3
      refine ⟨(k1.trans k2).mut nD k3, us ++ [.ref p], h3, ?_⟩
      rw [List.take_add_one, hc, List.map_append]
      exact Paired.snoc (Lsts.mut hD2 k3 (hL.mono k2)) ⟨p, rfl, k3.get hp (by simp [Ne.symm npD])⟩
    · rintro D H1 nD ⟨k1, us, hD, hL⟩
      rw [tx_size, List.take_length] at hL
      walk_at "r"
      exact ⟨D, us, s.map wn, rfl, hD, hL, by rw [List.length_map]; omega, hsz, fun p H2 np k2 hp => q p H2 (k1.free np (by simp)) (k1.trans k2) hp⟩
def sp_wm (K : PySem.W.Frag) : Sp := fun vs H Q _ => ∃ (v : V) (m : Nat × Nat), vs = [v] ∧ vM H m v ∧ okm m ∧ ∀ p H', H p = none → Keep [] H H' → H' p = some (.lst ((wm m).map V.int)) → Q (.ref p) H'
theorem wn_le10 {n : Nat} (h : okn n) : (wn n).length ≤ 10 := wn_len 9 n (Nat.lt_of_lt_of_le h (by decide))
theorem wm_le {m : Nat × Nat} (h : okm m) : (wm m).length ≤ 20 := by have := wn_le10 h.1; have := wn_le10 h.2; unfold wm; rw [List.length_append]; omega
theorem ok_write_mark (e : Env K mg A) : FnOk P w K mg base CX0 2 A.f_write_mark A.d_write_mark ["mark"] (sp_wm K) := by
  have G_write_number := ok_write_number (P := P) (w := w) (base := base) e
  refine e.F_write_mark.ok sc_write_mark (fun vs H Q E h => ?_) (fun cdv AA outer s H vs Q E hr h => ?_)
  · obtain ⟨v, m, rfl, _⟩ := h
    rfl
  · obtain ⟨v, m, rfl, ⟨t, rfl, ht⟩, hm, q⟩ := h
    have l1 := wn_le10 hm.1
    have l2 := wn_le10 hm.2
    refine ⟨_, (pss_one (ps_ret (pe_op op_cat (pe_call G_write_number (hr.mono (by omega)) (by rfl) e.m_write_number e.k_write_number e.b_write_number .nil pass0 (pa_cons (pe_ix (ix_tupK (K := K)) (pv 0) pe_int (fun _ _ => rfl)) pa_nil)) (pe_call G_write_number (hr.mono (by omega)) (by rfl) e.m_write_number e.k_write_number e.b_write_number .nil pass0 (pa_cons (pe_ix (ix_tupK (K := K)) (pv 0) pe_int (fun _ _ => rfl)) pa_nil))))), ?_⟩
    refine enter (st_write_mark _) ?_
    walk_at "i"
    walk_at "r"
    refine ⟨m.1, rfl, hm.1.lt, fun a H1 na k1 ha => ?_⟩
    have ht1 := k1.get ht (by simp)
    walk_at "r"
    refine ⟨m.2, rfl, hm.2.lt, fun b H2 nb k2 hb => ?_⟩
    have ha2 := k2.get ha (by simp)
    walk_at "r"
    intro c H3 nc k3 hc
    exact q c H3 ((k1.trans k2).free nc (by simp)) (k1.trans (k2.trans k3)) (by rw [hc, ← List.map_append]; rfl)
def sp_wd (K : PySem.W.Frag) : Sp := fun vs H Q _ => ∃ (v : V) (d : Dd), vs = [v] ∧ vD H d v ∧ okd d ∧ (wd d).length ≤ 10000000 ∧ ∀ p H', H p = none → Keep [] H H' → H' p = some (.lst ((wd d).map V.int)) → Q (.ref p) H'
theorem ne_back : ¬ (("change" : Str) = "back") := by decide +kernel
theorem ok_write_deed (e : Env K mg A) : FnOk P w K mg base CX0 4 A.f_write_deed A.d_write_deed ["deed"] (sp_wd K) := by
  have G_write_number := ok_write_number (P := P) (w := w) (base := base) e
  have G_write_list := ok_write_list (P := P) (w := w) (base := base) e
  have G_write_string := ok_write_string (P := P) (w := w) (base := base) e
  have G_write_mark := ok_write_mark (P := P) (w := w) (base := base) e
  refine e.F_write_deed.ok sc_write_deed (fun vs H Q E h => ?_) (fun cdv AA outer s H vs Q E hr h => ?_)
  · obtain ⟨v, d, rfl, _⟩ := h
    rfl
  · obtain ⟨v, d, rfl, hd, ho, hsz, q⟩ := h
    refine ⟨_, (pss_cons (ps_if (pt_cmpR op_eq (pe_ix (ix_tupK (K := K)) (pv 0) pe_int (fun _ _ => rfl)) pe_str (nomark _)) (pss_one (ps_ret (pe_op op_cat (pe_lst (pa_cons pe_int pa_nil)) (pe_call G_write_number (hr.mono (by omega)) (by rfl) e.m_write_number e.k_write_number e.b_write_number .nil pass0 (pa_cons (pe_ix (ix_tupK (K := K)) (pv 0) pe_int (fun _ _ => rfl)) pa_nil))))) pss_nil)
    (pss_cons (ps_asg (pv 0) (pg_tupK (K := K) (n := 6) rfl (pgs_cons (pg_name (i := 1) sc_write_deed.nd rfl (Or.inl rfl)) (pgs_cons (pg_name (i := 2) sc_write_deed.nd rfl (Or.inl rfl)) (pgs_cons (pg_name (i := 3) sc_write_deed.nd rfl (Or.inl rfl)) (pgs_cons (pg_name (i := 4) sc_write_deed.nd rfl (Or.inl rfl)) (pgs_cons (pg_name (i := 5) sc_write_deed.nd rfl (Or.inl rfl)) (pgs_cons (pg_name (i := 6) sc_write_deed.nd rfl (Or.inl rfl)) pgs_nil))))))))
    (pss_cons (ps_set (i := 7) sc_write_deed.nd rfl (Or.inl rfl) (pe_op op_cat (pe_op op_cat (pe_lst (pa_cons pe_int pa_nil)) (pe_call G_write_string (hr.mono (by omega)) (by rfl) e.m_write_string e.k_write_string e.b_write_string .nil pass0 (pa_cons (pv 2) pa_nil))) (pe_call G_write_list (hr.mono (by omega)) (by rfl) e.m_write_list e.k_write_list e.b_write_list .nil pass0 (pa_cons (pe_lc (own := [("mark", 8)]) (by rfl) sc_write_deed.nd (pi_tupK (K := K) (pv 3)) (blkOk_by (own := [("mark", 8)]) (N := nm_write_deed) (sc := defScope s_write_deed) (by decide +kernel)) (fun _ _ _ _ _ => (pg_name (i := 8) sc_write_deed.nd rfl (Or.inl rfl))) (fun _ _ _ _ _ => pts_nil) (fun _ _ _ _ _ => (pe_call G_write_mark (hr.mono (by omega)) (by rfl) e.m_write_mark e.k_write_mark e.b_write_mark .nil pass0 (pa_cons (pv 8) pa_nil)))) pa_nil))))
    (Evl.pss_cut (ps_expr (pe_bmK (K := K) PySem.F.plainAttrs_list PySem.F.slot_list_extend PySem.F.type_list_extend mt_extend (pv 7) (pa_cons (pe_ifExp (pt_cmpR op_isNo (pv 4) pe_non (nomark _)) (pe_lst (pa_cons pe_int pa_nil)) (pe_op op_cat (pe_lst (pa_cons pe_int pa_nil)) (pe_call G_write_mark (hr.mono (by omega)) (by rfl) e.m_write_mark e.k_write_mark e.b_write_mark .nil pass0 (pa_cons (pv 4) pa_nil)))) pa_nil)))
    (pss_one (ps_ret (pe_op op_cat (pe_op op_cat (pv 7) (pe_call G_write_number (hr.mono (by omega)) (by rfl) e.m_write_number e.k_write_number e.b_write_number .nil pass0 (pa_cons (pv 5) pa_nil))) (pe_call G_write_string (hr.mono (by omega)) (by rfl) e.m_write_string e.k_write_string e.b_write_string .nil pass0 (pa_cons (pv 6) pa_nil))))))))), ?_⟩
    refine enter (st_write_deed _) ?_
    walk_at "i"
    cases d with
    | back n =>
      obtain ⟨t, rfl, ht⟩ := hd
      have l1 := wn_le10 ho
      walk_at "r"
      intro a H1 na k1 ha
      have ht1 := k1.get ht (by simp)
      walk_at "r"
      refine ⟨n, rfl, okn.lt ho, fun b H2 nb k2 hb => ?_⟩
      have ha2 := k2.get ha (by simp)
      walk_at "r"
      intro c H3 nc k3 hc
      walk_at "r"
      exact q c H3 ((k1.trans k2).free nc (by simp)) (k1.trans (k2.trans k3)) (by rw [hc]; rfl)
    | chg m rm bh n t =>
      obtain ⟨v, r, us, b, rfl, hv, hr0, hM, hB⟩ := hd
      obtain ⟨o1, o2, o3, o4, o5, o6⟩ := ho
      have hz : (ws m).length + (wl (rm.map wm)).length + (wbh bh).length + (wn n).length + (ws t).length + 1 ≤ 10000000 := by
        have e1 : (wd (.chg m rm bh n t)).length = (ws m).length + (wl (rm.map wm)).length + (wbh bh).length + (wn n).length + (ws t).length + 1 := by simp [wd]; omega
        omega
      walk_at "r"
      refine ite_dec (fun z => absurd z ne_back) (fun _ => ?_)
      walk_at "r"
      intro z H1 nz k1 hz0
      walk_at "r"
      refine ⟨m, rfl, o1, by omega, fun a1 H2 n1 k2 ha1 => ?_⟩
      have hz2 := k2.get hz0 (by simp)
      walk_at "r"
      intro a2 H3 n2 k3 ha2
      have k13 := k1.trans (k2.trans k3)
      have hr3 := k13.get hr0 (by simp)
      have hM3 := vMs.keep hM k13
      have hB3 := vB.keep hB k13
      clear k1 k2 k3 hz0 hz2 ha1 hr0 hv hM hB
      walk_at "r"
      refine lcT (SqT.of hr3) (fun D i H' => Keep [] H3 H' ∧ ∃ us, H' D = some (.lst us) ∧ Lsts H' us ((rm.take i).map wm)) (fun D H1 nD k1 hD => ⟨k1, [], hD, by rw [List.take_zero]; exact Paired.nil⟩) (fun D i H' _ h => SqT.of (h.1.get hr3 (by simp))) ?_ ?_
      · rintro D i x H4 nD hx ⟨k4, ls, hD, hL⟩
        obtain ⟨mm, hmm, hvm⟩ := pd_get hM3 hx
        have hil : i < rm.length := (List.getElem?_eq_some_iff.mp hmm).1
        have hok := o2 mm (List.mem_of_getElem? hmm)
        have hul := hL.len
        rw [List.length_map, List.length_take] at hul
        walk_at "i"
        walk_at "r"
        refine ⟨x, mm, rfl, vM.keep hvm k4, hok, fun p H5 np k5 hp => ?_⟩
        have hD5 := k5.get hD (by simp)
        have npD := ne_of_none hD np
        walk_at "r"
        intro H6 k6 h6
        refine ⟨(k4.trans k5).mut nD k6, ls ++ [.ref p], h6, ?_⟩
        rw [List.take_add_one, hmm, List.map_append]
        exact Paired.snoc (Lsts.mut hD5 k6 (hL.mono k5)) ⟨p, rfl, k6.get hp (by simp [Ne.symm npD])⟩
      · rintro D H4 nD ⟨k4, ls, hD, hL⟩
        rw [show us.length = rm.length from vMs.len hM3, List.take_length] at hL
        walk_at "r"
        refine ⟨D, ls, rm.map wm, rfl, hD, hL, by rw [List.length_map]; omega, by omega, fun a3 H5 n3 k5 ha3 => ?_⟩
        have ha5 := (k4.trans k5).get ha2 (by simp)
        walk_at "r"
        intro a4 H6 n4 k6 ha4
        have k16 : Keep [] H H6 := k13.trans (k4.trans (k5.trans k6))
        have na4 : H a4 = none := (k13.trans (k4.trans k5)).free n4 (by simp)
        have hB6 := vB.keep hB3 (k4.trans (k5.trans k6))
        have ha4' : H6 a4 = some (.lst (((0 : Int) :: (ws m ++ wl (rm.map wm))).map V.int)) := by rw [ha4]; simp
        clear ha4 k4 k5 k6 k13 hB3 hM3 hr3 ha2 ha3 ha5 hD hL n1 n2 n3 n4
        refine s_cut (fun σ' H' => σ' = [some (.ref v), some (.str (Str.ofString "change")), some (.str (tx m)), some (.ref r), some b, some (.int (n : Int)), some (.str (tx t)), some (.ref a4), none] ∧ Keep [] H H' ∧ H' a4 = some (.lst (((0 : Int) :: (ws m ++ wl (rm.map wm) ++ wbh bh)).map V.int))) ?_ ?_
        · walk_at "i"
          walk_at "r"
          cases bh with
          | none =>
            cases hB6
            walk_at "r"
            intro l H7 nl k7 hl
            have ha7 := k7.get ha4' (by simp)
            walk_at "r"
            intro H8 k8 h8
            walk_at "r"
            exact ⟨(k16.trans k7).mut na4 k8, by rw [h8]; simp [wbh]⟩
          | some mk =>
            have hB6 : vM H6 mk b := hB6
            have hB7 := hB6
            obtain ⟨tb, rfl, htb⟩ := hB7
            have hmk := o4 mk rfl
            have hml := wm_le hmk
            walk_at "r"
            intro l H7 nl k7 hl
            walk_at "r"
            refine ⟨.ref tb, mk, rfl, vM.keep hB6 k7, hmk, fun p H8 np k8 hp => ?_⟩
            have hl8 := k8.get hl (by simp)
            walk_at "r"
            intro c H9 nc k9 hc
            have k79 := k7.trans (k8.trans k9)
            have ha9 := k79.get ha4' (by simp)
            clear hl8 hl hp
            walk_at "r"
            intro H10 k10 h10
            walk_at "r"
            exact ⟨(k16.trans k79).mut na4 k10, by rw [h10]; simp [wbh]⟩
        · rintro σ' H7 ⟨rfl, k7, h7⟩
          have l5 := wn_le10 o5
          walk_at "r"
          refine ⟨n, rfl, o5.lt, fun p H8 np k8 hp => ?_⟩
          have h8 := k8.get h7 (by simp)
          walk_at "r"
          intro c H9 nc k9 hc
          walk_at "r"
          refine ⟨t, rfl, o6, by omega, fun p2 H10 np2 k10 hp2 => ?_⟩
          have hc10 := k10.get hc (by simp)
          clear h8 h7 hp hc
          walk_at "r"
          intro c2 H11 nc2 k11 hc2
          have k := k7.trans (k8.trans (k9.trans k10))
          exact q c2 H11 (k.free nc2 (by simp)) (k.trans k11) (by rw [hc2]; simp [wd])
/-- packets written -/
def sp_wts (K : PySem.W.Frag) (W : List Tri → List Int) : Sp := fun vs H Q _ => ∃ (a : Addr) (us : List V) (ts : List Tri), vs = [.ref a] ∧ H a = some (.lst us) ∧ vTs H ts us ∧ (∀ t ∈ ts, okt t) ∧ ts.length ≤ 1000 ∧ (W ts).length ≤ 10000000 ∧
  ∀ p H', H p = none → Keep [] H H' → H' p = some (.lst ((W ts).map V.int)) → Q (.ref p) H'
theorem mem_flat_len {xs : List (List Int)} {x : List Int} (h : x ∈ xs) : x.length ≤ xs.flatten.length := by
  induction xs with
  | nil => cases h
  | cons y r ih =>
    rw [List.flatten_cons, List.length_append]
    rcases List.mem_cons.mp h with rfl | h
    · omega
    · have := ih h; omega
theorem ok_write_triples (e : Env K mg A) : FnOk P w K mg base CX0 5 A.f_write_triples A.d_write_triples ["triples"] (sp_wts K wts) := by
  have G_write_number := ok_write_number (P := P) (w := w) (base := base) e
  have G_write_list := ok_write_list (P := P) (w := w) (base := base) e
  have G_write_deed := ok_write_deed (P := P) (w := w) (base := base) e
  refine e.F_write_triples.ok sc_write_triples (fun vs H Q E h => ?_) (fun cdv AA outer s H vs Q E hr h => ?_)
  · obtain ⟨a, us, ts, rfl, _⟩ := h
    rfl
  · obtain ⟨a, us, ts, rfl, ha, hT, ho, htl, hsz, q⟩ := h
    have hul : us.length = ts.length := Paired.length hT
    refine ⟨_, (pss_cons (ps_set (i := 1) sc_write_triples.nd rfl (Or.inl rfl) (pe_lst pa_nil))
    (pss_cons (ps_for PassesOwn.never rfl (pi_listK (K := K) (pv 0)) (pg_tupK (K := K) (n := 3) rfl (pgs_cons (pg_name (i := 2) sc_write_triples.nd rfl (Or.inl rfl)) (pgs_cons (pg_name (i := 3) sc_write_triples.nd rfl (Or.inl rfl)) (pgs_cons (pg_name (i := 4) sc_write_triples.nd rfl (Or.inl rfl)) pgs_nil)))) (pss_one (ps_expr (pe_bmK (K := K) PySem.F.plainAttrs_list PySem.F.slot_list_append PySem.F.type_list_append mt_append (pv 1) (pa_cons (pe_op op_cat (pe_op op_cat (pe_call G_write_number (hr.mono (by omega)) (by rfl) e.m_write_number e.k_write_number e.b_write_number .nil pass0 (pa_cons (pv 2) pa_nil)) (pe_call G_write_number (hr.mono (by omega)) (by rfl) e.m_write_number e.k_write_number e.b_write_number .nil pass0 (pa_cons (pv 3) pa_nil))) (pe_call G_write_deed (hr.mono (by omega)) (by rfl) e.m_write_deed e.k_write_deed e.b_write_deed .nil pass0 (pa_cons (pv 4) pa_nil))) pa_nil)))))
    (pss_one (ps_ret (pe_call G_write_list (hr.mono (by omega)) (by rfl) e.m_write_list e.k_write_list e.b_write_list .nil pass0 (pa_cons (pv 1) pa_nil)))))), ?_⟩
    refine enter (st_write_triples _) ?_
    walk_at "i"
    walk_at "r"
    intro z H1 nz k1 hz
    walk_at "r"
    refine forL (SqL.of (k1.get ha (by simp))) (fun i σ H' => ∃ v2 v3 v4 ls, σ = [some (.ref a), some (.ref z), v2, v3, v4] ∧ Keep [] H H' ∧ H' z = some (.lst ls) ∧ Lsts H' ls ((ts.take i).map wt))
      ⟨_, _, _, [], rfl, k1, hz, by rw [List.take_zero]; exact Paired.nil⟩ (fun i σ H' _ h => ?_) ?_ ?_
    · obtain ⟨_, _, _, _, _, k, _⟩ := h
      exact SqL.of (k.get ha (by simp))
    · rintro i x σ H2 hx ⟨v2, v3, v4, ls, rfl, k2, hz2, hL⟩
      obtain ⟨tt, htt, b, bv, rfl, hb, hdd⟩ := pd_get hT hx
      have hb2 := k2.get hb (by simp)
      have hdd2 := vD.keep hdd k2
      have hmem := List.mem_of_getElem? htt
      obtain ⟨o1, o2, o3⟩ := ho tt hmem
      have l1 := wn_le10 o1
      have l2 := wn_le10 o2
      have hls := hL.len
      rw [List.length_map, List.length_take] at hls
      have hwd : (wd tt.d).length ≤ 9999000 ∨ (wd tt.d).length ≤ 10000000 - 0 := .inr (by
        have h1 := mem_flat_len (List.mem_map_of_mem (f := wt) hmem)
        have h2 : (wts ts).length = (wn (ts.map wt).length).length + (ts.map wt).flatten.length := by simp [wts, wl]
        have h3 : (wt tt).length = (wn tt.r).length + (wn tt.p).length + (wd tt.d).length := by simp [wt]; omega
        omega)
      have hwd2 : (wd tt.d).length ≤ 10000000 := by omega
      walk_at "r"
      refine ⟨tt.r, rfl, o1.lt, fun p1 H3 n1 k3 h1 => ?_⟩
      walk_at "r"
      refine ⟨tt.p, rfl, o2.lt, fun p2 H4 n2 k4 h2 => ?_⟩
      have h14 := k4.get h1 (by simp)
      walk_at "r"
      intro c1 H5 nc1 k5 hc1
      have k25 := k3.trans (k4.trans k5)
      clear h1 h14 h2 
      walk_at "r"
      refine ⟨bv, tt.d, rfl, vD.keep hdd2 k25, o3, hwd2, fun p3 H6 n3 k6 h3 => ?_⟩
      have hc16 := k6.get hc1 (by simp)
      walk_at "r"
      intro c2 H7 nc2 k7 hc2
      have k27 := k25.trans (k6.trans k7)
      have hz7 := k27.get hz2 (by simp)
      have hL7 := hL.mono k27
      have nzc := ne_of_none ((k25.trans k6).get hz2 (by simp)) nc2
      clear hz2 hL hc1 hc16 h3
      walk_at "r"
      intro H8 k8 h8
      walk_at "r"
      refine ⟨_, _, _, _, rfl, (k2.trans k27).mut nz k8, h8, ?_⟩
      rw [List.take_add_one, htt, List.map_append]
      exact Paired.snoc (Lsts.mut hz7 k8 hL7) ⟨c2, rfl, by rw [k8.get hc2 (by simp [Ne.symm nzc])]; simp [wt]⟩
    · rintro σ H2 ⟨v2, v3, v4, ls, rfl, k2, hz2, hL⟩
      rw [hul, List.take_length] at hL
      walk_at "r"
      exact ⟨z, ls, ts.map wt, rfl, hz2, hL, by rw [List.length_map]; omega, hsz, fun p H3 np k3 hp => q p H3 (k2.free np (by simp)) (k2.trans k3) hp⟩
theorem ok_write_packet (e : Env K mg A) : FnOk P w K mg base CX0 6 A.f_write_packet A.d_write_packet ["packet"] (sp_wts K wp) := by
  have G_write_triples := ok_write_triples (P := P) (w := w) (base := base) e
  refine e.F_write_packet.ok sc_write_packet (fun vs H Q E h => ?_) (fun cdv AA outer s H vs Q E hr h => ?_)
  · obtain ⟨a, us, ts, rfl, _⟩ := h
    rfl
  · obtain ⟨a, us, ts, rfl, ha, hT, ho, htl, hsz, q⟩ := h
    have hz : (wts ts).length + 1 ≤ 10000000 := by have : (wp ts).length = (wts ts).length + 1 := by simp [wp]
                                                   omega
    refine ⟨_, (pss_one (ps_ret (pe_op op_cat (pe_lst (pa_cons pe_int pa_nil)) (pe_call G_write_triples (hr.mono (by omega)) (by rfl) e.m_write_triples e.k_write_triples e.b_write_triples .nil pass0 (pa_cons (pv 0) pa_nil))))), ?_⟩
    refine enter (st_write_packet _) ?_
    walk_at "i"
    walk_at "r"
    intro z H1 nz k1 hz1
    walk_at "r"
    refine ⟨a, us, ts, rfl, k1.get ha (by simp), vTs.keep hT k1, ho, htl, by omega, fun p H2 np k2 hp => ?_⟩
    have hz2 := k2.get hz1 (by simp)
    walk_at "r"
    intro c H3 nc k3 hc
    exact q c H3 ((k1.trans k2).free nc (by simp)) (k1.trans (k2.trans k3)) (by rw [hc]; rfl)
end My

end
section
set_option maxHeartbeats 4000000
local macro_rules | `(tactic| walk_at "k") => `(tactic| first
  | assumption
  | exact W.Keep.trans (by assumption) (by assumption)
  | exact And.intro (by grind [W.Keep, W.Kp]) (by grind [W.Keep, W.Kt])
  | grind [W.Keep, W.Kp])
local macro_rules | `(tactic| walk_at "f") => `(tactic| first
  | assumption
  | exact L2.SqL.of (by assumption)
  | exact L2.SqT.of (by assumption)
  | exact L2.SqL.of L2.upd_same
  | exact L2.SqT.of L2.upd_same
  | exact L2.upd_same
  | exact W.carryL (by assumption) (by assumption)
  | exact W.carryL (by assumption) (by walk_at "k")
  | exact W.carryT (by assumption) (by walk_at "k")
  | exact W.carry (by assumption) (by grind [W.Keep, W.Kp])
  | exact L2.SqL.of (W.carry (by assumption) (by grind [W.Keep, W.Kp]))
  | exact L2.SqT.of (W.carry (by assumption) (by grind [W.Keep, W.Kp])))
local macro_rules | `(tactic| walk_at "a") => `(tactic| first
  | assumption
  | rfl)
local macro_rules | `(tactic| walk_at "n") => `(tactic| first
  | assumption
  | exact Nat.zero_le _
  | decide
  | (simp only [List.length_cons, List.length_nil]; decide)
  | omega
  | (simp only [PySem.sizeLine_eq]; omega)
  | (simp only [List.length_map, List.length_append, List.length_cons, List.length_nil, PySem.sizeLine_eq]; omega)
  | (simp only [List.length_map, List.length_append, List.length_cons, List.length_nil, List.length_take, List.length_drop, PySem.sizeLine_eq]; omega)
  | (simp only [List.length_map, List.length_append, List.length_cons, List.length_nil, PySem.sizeLine_eq] at *; omega))
local macro_rules | `(tactic| walk_at "c") => `(tactic| first
  | assumption
  | decide
  | exact And.intro (by decide) (by decide)
  | exact Or.inr (And.intro (by decide) (by decide))
  | exact Or.inl (And.intro (by decide) (by decide))
  | exact And.intro (by decide) (And.intro (by decide) (by decide))
  | exact (show (0 : Int) < _ by decide)
  | exact And.intro (by omega) (by omega)
  | exact Or.inl (And.intro (by omega) (by omega))
  | exact Or.inr (And.intro (by omega) (by omega))
  | exact (show (0 : Int) < _ by omega))
local macro_rules | `(tactic| walk_at "v") => `(tactic| with_reducible first
  | refine W.v0 ?_ | refine W.v1 ?_ | refine W.v2 ?_ | refine W.v3 ?_ | refine W.v4 ?_ | refine W.v5 ?_ | refine W.v6 ?_ | refine W.v7 ?_ | refine W.v8 ?_
  | refine W.v9 ?_ | refine W.v10 ?_ | refine W.v11 ?_ | refine W.v12 ?_ | refine W.v13 ?_ | refine W.v14 ?_ | refine W.v15 ?_ | refine W.v16 ?_ | refine W.v17 ?_
  | refine W.g0 ?_ | refine W.g1 ?_ | refine W.g2 ?_ | refine W.g3 ?_ | refine W.g4 ?_ | refine W.g5 ?_ | refine W.g6 ?_ | refine W.g7 ?_ | refine W.g8 ?_
  | refine W.g9 ?_ | refine W.g10 ?_ | refine W.g11 ?_ | refine W.g12 ?_ | refine W.g13 ?_ | refine W.g14 ?_ | refine W.g15 ?_)
local macro_rules | `(tactic| walk_at "e") => `(tactic| with_reducible first
  | refine W.e_c ?_ | refine W.e_op ?_ | refine W.s_seq ?_ | refine W.s_asg ?_ | refine W.e_CB ?_ | refine W.a_cons ?_ | refine W.a_nil ?_ | refine W.e_call ?_
  | refine W.t_test ?_ | refine W.w_B ?_ | refine W.s_if ?_ | refine W.s_ret ?_ | refine W.s_drop ?_ | refine W.e_un ?_ | refine W.e_fld ?_ | refine W.s_fld ?_
  | refine W.e_meth ?_ | refine W.e_if ?_ | refine W.e_lst ?_ | refine W.e_tup ?_ | refine W.e_sl ?_ | refine W.o_none ?_ | refine W.o_some ?_ | refine W.w_part ?_
  | refine W.e_bm ?_ | refine W.e_bm0 ?_ | refine W.t_B ?_ | refine W.t_and ?_ | refine W.t_or ?_ | refine W.t_not ?_ | refine W.e_andV ?_ | refine W.e_orV ?_ | refine W.e_notV ?_ | refine W.w_BV ?_ | refine W.e_chain ?_
  | refine W.s_aug ?_ | refine W.s_augS ?_ | refine W.s_next ?_ | refine W.s_brk ?_ | refine W.s_cont ?_ | refine W.s_retN ?_ | refine W.s_fa ?_ | refine W.e_make ?_ | refine W.w_make ?_
  | refine W.w_I0 ?_ | refine W.w_U ?_ | refine W.w_aug ?_ | refine W.w_eqI ?_ | refine W.w_neI ?_ | refine W.w_eqS ?_ | refine W.w_neS ?_ | refine W.w_eqB ?_ | refine W.w_neB ?_
  | refine W.w_int ?_ | refine W.w_intB ?_ | refine W.w_min ?_ | refine W.w_max ?_ | refine W.w_isN ?_ | refine W.w_isI ?_ | refine W.w_isS ?_ | refine W.w_isB ?_ | refine W.w_isR ?_
  | refine W.w_notN ?_ | refine W.w_notI ?_ | refine W.w_notR ?_ | refine W.w_notS ?_ | refine W.w_eqNI ?_ | refine W.w_neNI ?_ | refine W.w_eqN ?_ | refine W.w_neN ?_
  | refine W.s_forL ?_ | refine W.s_forT ?_ | refine W.s_forS ?_ | refine W.s_forR1 ?_ | refine W.s_forR2 ?_ | refine W.s_forR3 ?_ | refine W.s_forZ ?_ | refine W.s_forE ?_
  | refine W.e_lcL ?_ | refine W.e_lcT ?_ | refine W.w_ord ?_ | refine W.e_lcR1 ?_ | refine W.e_lcR2 ?_ | refine W.e_lcZ ?_ | refine W.e_lcS ?_ | refine W.t_yes ?_ | refine W.w_gcons ?_ | refine W.w_gnil ?_ | refine W.s_par ?_ | refine W.w_par ?_ | refine W.g_sub ?_ | refine W.e_m1 ?_ | refine W.w_strR ?_ | refine W.w_rAdd ?_ | refine W.w_rSub ?_ | refine W.s_raise ?_ | refine W.s_try ?_ | refine W.e_methS ?_)
local macro_rules | `(tactic| walk_at "w") => `(tactic| first
  | ((with_reducible refine' W.w_I ?wh ?wq); (case wh => walk_at "c"))
  | ((with_reducible refine' W.w_ixL (n := 0) ?wh ?we ?wq); (case wh => walk_at "f"); (case we => walk_at "a"))
  | ((with_reducible refine' W.w_ixT (n := 0) ?wh ?we ?wq); (case wh => walk_at "f"); (case we => walk_at "a"))
  | ((with_reducible refine' W.w_lenL ?wh ?wq); (case wh => walk_at "f"))
  | ((with_reducible refine' W.w_lenT ?wh ?wq); (case wh => walk_at "f"))
  | ((with_reducible refine' W.w_lenS ?wh ?wq); (case wh => walk_at "n"))
  | ((with_reducible refine' W.w_app ?wh ?we ?wq); (case wh => walk_at "f"); (case we => walk_at "n"))
  | ((with_reducible refine' W.w_meth ?wh ?we ?wq); (case wh => walk_at "f"); (case we => first | assumption | rfl))
  | ((with_reducible refine' W.w_ixLTl ?wh ?we ?wq); (case wh => walk_at "f"); (case we => walk_at "a"))
  | ((with_reducible refine' W.w_ixLTt ?wh ?we ?wq); (case wh => walk_at "f"); (case we => walk_at "a"))
  | ((with_reducible refine' W.w_addS ?wh ?wq); (case wh => walk_at "n"))
  | ((with_reducible refine' W.w_set ?wh ?we ?wq); (case wh => walk_at "f"); (case we => walk_at "a"))
  | ((with_reducible refine' W.w_tup ?wh ?we ?wq); (case wh => walk_at "f"); (case we => first | assumption | rfl))
  | ((with_reducible refine' W.w_slS ?wh ?wq); (case wh => walk_at "n"))
  | ((with_reducible refine' W.w_rApp ?wh ?we ?wq); (case wh => walk_at "f"); (case we => walk_at "n"))
  | ((with_reducible refine' W.w_newL ?wh ?wq); (case wh => walk_at "n"))
  | ((with_reducible refine' W.w_newT ?wh ?wq); (case wh => walk_at "n"))
  | ((with_reducible refine' W.w_listL ?wh ?wq); (case wh => walk_at "f"))
  | ((with_reducible refine' W.w_tupL ?wh ?wq); (case wh => walk_at "f"))
  | ((with_reducible refine' W.w_slL ?wh ?wq); (case wh => walk_at "f"))
  | ((with_reducible refine' W.w_cat ?wh ?wf ?we ?wq); (case wh => walk_at "f"); (case wf => walk_at "f"); (case we => walk_at "n"))
  | ((with_reducible refine' W.w_catT ?wh ?wf ?wx ?wy ?we ?wq); (case wh => walk_at "f"); (case wf => walk_at "f"); (case wx => exact List.cons_ne_nil _ _); (case wy => exact List.cons_ne_nil _ _); (case we => walk_at "n"))
  | ((with_reducible refine' W.w_ext ?wh ?wf ?we ?wq); (case wh => walk_at "f"); (case wf => walk_at "f"); (case we => walk_at "n"))
  | ((with_reducible refine' W.w_recv ?wh ?wq); (case wh => walk_at "f"))
  | ((with_reducible refine' W.w_isi1 ?wh ?we ?wq); (case wh => assumption); (case we => decide +kernel))
  | ((with_reducible refine' W.w_isi0 ?wh ?we ?wq); (case wh => assumption); (case we => decide +kernel))
  | ((with_reducible refine' W.w_isiT10 ?wh ?wf ?we ?wg ?wq); (case wh => assumption); (case wf => walk_at "f"); (case we => decide +kernel); (case wg => decide +kernel))
  | ((with_reducible refine' W.w_isiT01 ?wh ?wf ?we ?wg ?wq); (case wh => assumption); (case wf => walk_at "f"); (case we => decide +kernel); (case wg => decide +kernel))
  | ((with_reducible refine' W.w_isiT00 ?wh ?wf ?we ?wg ?wq); (case wh => assumption); (case wf => walk_at "f"); (case we => decide +kernel); (case wg => decide +kernel))
  | ((with_reducible refine' W.w_ins ?wh ?we ?wf ?wq); (case wh => walk_at "f"); (case we => walk_at "n"); (case wf => walk_at "c"))
  | ((with_reducible refine' W.w_unl ?wh ?we ?wq); (case wh => walk_at "f"); (case we => first | assumption | rfl))
  | ((with_reducible refine' W.ite_T ?_))
  | ((with_reducible refine' W.ite_F ?_))
  | ((with_reducible refine' W.ite_nT ?_))
  | ((with_reducible refine' W.ite_nF ?_))
  | ((with_reducible refine' W.ite_self ?_))
  | ((with_reducible refine' W.ite_nself ?_))
  | ((with_reducible refine' W.ite_tf ?_))
  | ((with_reducible refine' W.ite_ft ?_))
  | ((with_reducible refine' W.ite_ntf ?_))
  | ((with_reducible refine' W.ite_nft ?_))
  | ((with_reducible refine' And.intro ?wl ?wq); (case wl => rfl)))
local macro_rules | `(tactic| walk_at "i") => `(tactic| try (dsimp only [L2.cxOf, L2.wipe, List.map, List.set]))
local macro_rules | `(tactic| walk_at "s") => `(tactic| first | walk_at "v" | walk_at "e" | walk_at "w")
local macro_rules | `(tactic| walk_at "r") => `(tactic| repeat walk_at "s")

namespace My
open PySem L2 W
variable {P : Program} {w : World} {K : PySem.W.Frag} {mg : Str → Option Value} {base : Heap} {A : Adr}
/-- what the law's reader tells -/
def oV {α : Type} (Val : Hp → α → V → Prop) (H : Hp) : Option (α × Nat) → V → Prop
  | none, v => v = .non
  | some (a, q), v => ∃ t u, v = .ref t ∧ H t = some (.tup [u, .int (q : Int)]) ∧ Val H a u
def spL {α : Type} (P : Rdr α) (Val : Hp → α → V → Prop) : Sp := fun vs H Q _ => ∃ (a : Addr) (ds : List Int) (p : Nat), vs = [.ref a, .int (p : Int)] ∧ H a = some (.lst (ds.map V.int)) ∧ ds.length ≤ 1000000 ∧ (∀ b ∈ ds, 0 ≤ b) ∧
  ∀ v H', Keep [] H H' → oV Val H' (P ds p) v → Q v H'
theorem oV_no {α : Type} {Val : Hp → α → V → Prop} {H : Hp} {z : Option (α × Nat)} (h : z = none) : oV Val H z .non := by subst h; rfl
theorem oV_yes {α : Type} {Val : Hp → α → V → Prop} {H : Hp} {z : Option (α × Nat)} {a : α} {q : Nat} {t : Addr} {u : V} (h : z = some (a, q)) (ht : H t = some (.tup [u, .int (q : Int)])) (hv : Val H a u) : oV Val H z (.ref t) := by subst h; exact ⟨t, u, rfl, ht, hv⟩
theorem at_ds {ds : List Int} {p i : Nat} (hp : p + i < ds.length) : atI (ds.map V.int) ((p : Int) + (i : Int)) = some (.int (ds.getD (p + i) 0)) := by
  rw [show (p : Int) + (i : Int) = ((p + i : Nat) : Int) by omega]
  refine atI_nat ?_
  rw [List.getElem?_map, List.getD_eq_getElem?_getD, List.getElem?_eq_getElem hp]; rfl
theorem ok__law_read_number (e : Env K mg A) : FnOk P w K mg base CX0 1 A.f__law_read_number A.d__law_read_number ["data", "at"] (spL pnum vN) := by
  refine e.F__law_read_number.ok sc__law_read_number (fun vs H Q E h => ?_) (fun cdv AA outer s H vs Q E hr h => ?_)
  · obtain ⟨a, ds, p, rfl, _⟩ := h
    rfl
  · obtain ⟨a, ds, p, rfl, ha, hl, hn, q⟩ := h
    refine ⟨_, (pss_cons (ps_set (i := 2) sc__law_read_number.nd rfl (Or.inl rfl) pe_int)
    (pss_cons (ps_set (i := 3) sc__law_read_number.nd rfl (Or.inl rfl) pe_int)
    (pss_cons (ps_for PassesOwn.never rfl (pi_range1 rfl e.n_range (pa_cons pe_int pa_nil)) (pg_name (i := 4) sc__law_read_number.nd rfl (Or.inl rfl)) (pss_cons (ps_if (pt_cmpR op_ge (pe_op op_add (pv 1) (pv 4)) (pe_callB (call_lenLK (K := K)) (by rfl) e.n_len (by decide +kernel) (pa_cons (pv 0) pa_nil)) (nomark _)) (pss_one (ps_ret pe_non)) pss_nil)
    (pss_cons (ps_set (i := 2) sc__law_read_number.nd rfl (Or.inl rfl) (pe_op op_add (pv 2) (pe_op op_mul (pe_op op_mod (pe_ix (ix_listK (K := K)) (pv 0) (pe_op op_add (pv 1) (pv 4)) (fun _ _ => rfl)) pe_int) (pv 3))))
    (pss_cons (ps_set (i := 3) sc__law_read_number.nd rfl (Or.inl rfl) (pe_op op_mul (pv 3) pe_int))
    (pss_one (ps_if (pt_cmpR op_lt (pe_ix (ix_listK (K := K)) (pv 0) (pe_op op_add (pv 1) (pv 4)) (fun _ _ => rfl)) pe_int (nomark _)) (pss_one (ps_ret (pe_ifExp (PW.pt (pw_and (pt_cmpR op_gt (pv 4) pe_int (nomark _)) (pw_and1 (pt_cmpR op_eq (pe_ix (ix_listK (K := K)) (pv 0) (pe_op op_add (pv 1) (pv 4)) (fun _ _ => rfl)) pe_int (nomark _))))) pe_non (pe_tup (pa_cons (pv 2) (pa_cons (pe_op op_add (pe_op op_add (pv 1) (pv 4)) pe_int) pa_nil)))))) pss_nil))))))
    (pss_one (ps_ret pe_non))))), ?_⟩
    refine enter (st__law_read_number _ _) ?_
    walk_at "i"
    walk_at "r"
    refine forR1 (by omega) (by omega) (fun i σ H' => ∃ (t c : Int) (v4 : Option V), σ = [some (.ref a), some (.int (p : Int)), some (.int t), some (.int c), v4] ∧ H' = H ∧ i ≤ 60 ∧ rn 60 (ds.drop p) 0 0 1 = rn (60 - i) (ds.drop (p + i)) i t c)
      ⟨_, _, _, rfl, rfl, by omega, rfl⟩ ?_ ?_
    · rintro i σ H1 hi ⟨t, c, v4, rfl, rfl, hi2, hrn⟩
      obtain ⟨f, hf⟩ : ∃ f, 60 - i = f + 1 := ⟨59 - i, by omega⟩
      rw [hf] at hrn
      walk_at "r"
      rw [List.length_map]
      refine ite_dec (fun h1 => ?_) (fun h1 => ?_)
      · walk_at "r"
        rw [show ds.drop (p + i) = [] from List.drop_of_length_le (by omega)] at hrn
        exact q _ _ Keep.refl (oV_no (pnum_none hrn))
      · have hp : p + i < ds.length := by omega
        have hd : ds.drop (p + i) = ds.getD (p + i) 0 :: ds.drop (p + (i + 1)) := by
          rw [List.drop_eq_getElem_cons hp, List.getD_eq_getElem?_getD, List.getElem?_eq_getElem hp]; rfl
        have hat := at_ds hp
        rw [hd] at hrn
        generalize ds.getD (p + i) 0 = b at hrn hat
        have hrn2 : rn 60 (ds.drop p) 0 0 1 = if b < 128 then (if b = 0 ∧ 0 < i then none else some (i + 1, t + b % 128 * c)) else rn f (ds.drop (p + (i + 1))) (i + 1) (t + b % 128 * c) (c * 128) := hrn
        walk_at "r"
        refine ite_dec (fun hb => ?_) (fun hb => ?_)
        · rw [if_pos hb] at hrn2
          walk_at "r"
          have ret : ¬ (b = 0 ∧ 0 < i) → ∀ t' H', Keep [] H1 H' → H' t' = some (.tup [.int (t + b % 128 * c), .int ((p : Int) + (i : Int) + 1)]) → Q (.ref t') H' := fun z t' H' k h => by
            rw [if_neg z] at hrn2
            obtain ⟨e1, e2⟩ := pnum_some hrn2
            rw [show (p : Int) + (i : Int) + 1 = ((p + (i + 1) : Nat) : Int) by omega] at h
            exact q _ _ k (oV_yes e1 h (congrArg V.int e2))
          refine ite_dec (fun h2 => ?_) (fun h2 => ?_)
          · walk_at "r"
            refine ite_dec (fun h3 => ?_) (fun h3 => ?_)
            · walk_at "r"
              rw [if_pos ⟨h3, by omega⟩] at hrn2
              exact q _ _ Keep.refl (oV_no (pnum_none hrn2))
            · walk_at "r"
              intro t' H2 _ k2 h2
              exact ret (fun z => h3 z.1) t' H2 k2 h2
          · walk_at "r"
            intro t' H2 _ k2 h3
            exact ret (fun z => h2 (by omega)) t' H2 k2 h3
        · rw [if_neg hb] at hrn2
          walk_at "r"
          refine ⟨_, _, _, rfl, rfl, by omega, ?_⟩
          rw [hrn2, show 60 - (i + 1) = f by omega]
    · rintro σ H1 ⟨t, c, v4, rfl, rfl, hi2, hrn⟩
      walk_at "r"
      exact q _ _ Keep.refl (oV_no (pnum_none hrn))
def sp_sign : Sp := fun vs H Q _ => ∃ n : Nat, vs = [.int (n : Int)] ∧ okch n = true ∧ Q (.str (tx [n])) H
theorem ok__law_sign (e : Env K mg A) : FnOk P w K mg base CX0 1 A.f__law_sign A.d__law_sign ["code"] sp_sign := by
  refine e.F__law_sign.ok sc__law_sign (fun vs H Q E h => ?_) (fun cdv AA outer s H vs Q E hr h => ?_)
  · obtain ⟨n, rfl, _⟩ := h
    rfl
  · obtain ⟨n, rfl, ho, q⟩ := h
    have ho2 : n = 10 ∨ (32 ≤ n ∧ n < 37) ∨ (38 ≤ n ∧ n < 127) := by unfold okch at ho; simp at ho; omega
    refine ⟨_, (pss_cons (ps_set (i := 1) sc__law_sign.nd rfl (Or.inl rfl) pe_str)
    (pss_cons (ps_set (i := 2) sc__law_sign.nd rfl (Or.inl rfl) pe_str)
    (pss_cons (ps_if (pt_cmpR op_lt (pv 0) pe_int (nomark _)) (pss_one (ps_ret (pe_ifExp (pt_cmpR op_eq (pv 0) pe_int (nomark _)) pe_str (pe_ix ix_str (pv 1) (pe_op op_sub (pv 0) pe_int) (fun _ _ => rfl))))) pss_nil)
    (pss_one (ps_ret (pe_ix ix_str (pv 2) (pe_op op_sub (pv 0) pe_int) (fun _ _ => rfl))))))), ?_⟩
    refine enter (st__law_sign _) ?_
    walk_at "i"
    simp only [nl_]
    walk_at "r"
    refine ite_dec (fun h1 => ?_) (fun h1 => ?_)
    · walk_at "r"
      refine ite_dec (fun h2 => ?_) (fun h2 => ?_)
      · walk_at "r"
        rw [show n = 10 by omega] at q
        exact q
      · walk_at "r"
        refine w_ixS bef_z (bef_at (by omega) (by omega)) ?_
        exact q
    · walk_at "r"
      refine w_ixS aft_z (aft_at (by omega) (by omega)) ?_
      exact q
theorem ok__law_read_text (e : Env K mg A) : FnOk P w K mg base CX0 2 A.f__law_read_text A.d__law_read_text ["data", "at"] (spL pstr vS) := by
  have G__law_read_number := ok__law_read_number (P := P) (w := w) (base := base) e
  have G__law_sign := ok__law_sign (P := P) (w := w) (base := base) e
  refine e.F__law_read_text.ok sc__law_read_text (fun vs H Q E h => ?_) (fun cdv AA outer s H vs Q E hr h => ?_)
  · obtain ⟨a, ds, p, rfl, _⟩ := h
    rfl
  · obtain ⟨a, ds, p, rfl, ha, hl, hn, q⟩ := h
    refine ⟨_, (pss_cons (ps_set (i := 2) sc__law_read_text.nd rfl (Or.inl rfl) (pe_call G__law_read_number (hr.mono (by omega)) (by rfl) e.m__law_read_number e.k__law_read_number e.b__law_read_number .nil pass0 (pa_cons (pv 0) (pa_cons (pv 1) pa_nil))))
    (pss_cons (ps_if (PW.pt (pw_or (pt_cmpR op_isNo (pv 2) pe_non (nomark _)) (pw_or1 (pt_cmpR op_gt (pe_ix (ix_tupK (K := K)) (pv 2) pe_int (fun _ _ => rfl)) (pe_op op_sub (pe_callB (call_lenLK (K := K)) (by rfl) e.n_len (by decide +kernel) (pa_cons (pv 0) pa_nil)) (pe_ix (ix_tupK (K := K)) (pv 2) pe_int (fun _ _ => rfl))) (nomark _))))) (pss_one (ps_ret pe_non)) pss_nil)
    (pss_cons (ps_asg (pv 2) (pg_tupK (K := K) (n := 2) rfl (pgs_cons (pg_name (i := 3) sc__law_read_text.nd rfl (Or.inl rfl)) (pgs_cons (pg_name (i := 1) sc__law_read_text.nd rfl (Or.inl rfl)) pgs_nil))))
    (pss_cons (ps_set (i := 4) sc__law_read_text.nd rfl (Or.inl rfl) pe_str)
    (pss_cons (ps_for PassesOwn.never rfl (pi_range1 rfl e.n_range (pa_cons (pv 3) pa_nil)) (pg_name (i := 5) sc__law_read_text.nd rfl (Or.inl rfl)) (pss_cons (ps_set (i := 2) sc__law_read_text.nd rfl (Or.inl rfl) (pe_call G__law_read_number (hr.mono (by omega)) (by rfl) e.m__law_read_number e.k__law_read_number e.b__law_read_number .nil pass0 (pa_cons (pv 0) (pa_cons (pv 1) pa_nil))))
    (pss_cons (ps_if (PW.pt (pw_or (pt_cmpR op_isNo (pv 2) pe_non (nomark _)) (pw_or (PW.pt (pw_and (pt_cmpR op_ne (pe_ix (ix_tupK (K := K)) (pv 2) pe_int (fun _ _ => rfl)) pe_int (nomark _)) (pw_and1 (pt_not (pt_chain op_le op_le pe_int (pe_ix (ix_tupK (K := K)) (pv 2) pe_int (fun _ _ => rfl)) pe_int))))) (pw_or1 (pt_cmpR op_eq (pe_ix (ix_tupK (K := K)) (pv 2) pe_int (fun _ _ => rfl)) pe_int (nomark _)))))) (pss_one (ps_ret pe_non)) pss_nil)
    (pss_cons (ps_set (i := 4) sc__law_read_text.nd rfl (Or.inl rfl) (pe_op op_addS (pv 4) (pe_call G__law_sign (hr.mono (by omega)) (by rfl) e.m__law_sign e.k__law_sign e.b__law_sign .nil pass0 (pa_cons (pe_ix (ix_tupK (K := K)) (pv 2) pe_int (fun _ _ => rfl)) pa_nil))))
    (pss_one (ps_set (i := 1) sc__law_read_text.nd rfl (Or.inl rfl) (pe_ix (ix_tupK (K := K)) (pv 2) pe_int (fun _ _ => rfl))))))))
    (pss_one (ps_ret (pe_tup (pa_cons (pv 4) (pa_cons (pv 1) pa_nil)))))))))), ?_⟩
    refine enter (st__law_read_text _ _) ?_
    walk_at "i"
    simp only [em_]
    walk_at "r"
    refine ⟨a, ds, p, rfl, ha, hl, hn, fun v H1 k1 hv => ?_⟩
    cases hz : pnum ds p with
    | none =>
      rw [hz] at hv
      obtain rfl : v = .non := hv
      walk_at "r"
      exact q _ H1 k1 (oV_no (by unfold pstr plist pcnt; rw [hz]; rfl))
    | some z =>
      obtain ⟨n, q1⟩ := z
      rw [hz] at hv
      obtain ⟨t, u, rfl, ht, rfl⟩ := hv
      have hc : pcnt ds p = if ds.length < n + q1 then none else some (n, q1) := by unfold pcnt; rw [hz]; rfl
      have ha1 := k1.get ha (by simp)
      walk_at "r"
      rw [List.length_map]
      refine ite_dec (fun h1 => ?_) (fun h1 => ?_)
      · walk_at "r"
        exact q _ H1 k1 (oV_no (by unfold pstr plist; rw [hc, if_pos (by omega)]; rfl))
      · rw [if_neg (by omega)] at hc
        have e1 : pstr ds p = pmany (psig ds) n q1 := by unfold pstr plist; rw [hc]; rfl
        walk_at "r"
        refine forR1 (by omega) (by omega) (fun i σ H' => ∃ (v2 v5 : Option V) (s : List Nat) (q' : Nat), σ = [some (.ref a), some (.int (q' : Int)), v2, some (.int (n : Int)), some (.str (tx s)), v5] ∧ Keep [] H H' ∧ pmany (psig ds) i q1 = some (s, q'))
          ⟨_, _, [], q1, rfl, k1, rfl⟩ ?_ ?_
        · rintro i σ H2 hi ⟨v2, v5, s, q', rfl, k2, hm⟩
          have hsl := pmany_len _ hm
          have ha2 := k2.get ha (by simp)
          have fail : psig ds q' = none → ∀ H', Keep [] H2 H' → Q .non H' := fun hf H' k => q _ H' (k2.trans k) (oV_no (by rw [e1]; exact pmany_stop (psig ds) hm hf (by omega)))
          walk_at "r"
          refine ⟨a, ds, q', rfl, ha2, hl, hn, fun v H3 k3 hv => ?_⟩
          cases hz2 : pnum ds q' with
          | none =>
            rw [hz2] at hv
            obtain rfl : v = .non := hv
            walk_at "r"
            exact fail (by unfold psig; rw [hz2]; rfl) H3 k3
          | some z =>
            obtain ⟨c, q2⟩ := z
            rw [hz2] at hv
            obtain ⟨t2, u2, rfl, ht2, rfl⟩ := hv
            have hs : psig ds q' = if okch c then some (c, q2) else none := by unfold psig; rw [hz2]; rfl
            have no : okch c = false → Q .non H3 := fun h => fail (by rw [hs, h]; rfl) H3 k3
            have yes : okch c = true → psig ds q' = some (c, q2) := fun h => by rw [hs, if_pos h]
            clear hs
            have z1 : (tx s).length + (tx [c]).length ≤ PySem.sizeLine := by rw [tx_len, tx_len, PySem.sizeLine_eq, List.length_singleton]; omega
            walk_at "r"
            refine ite_ndec (fun h2 => ?_) (fun h2 => ?_)
            · walk_at "r"
              refine ite_dec (fun h3 => ?_) (fun h3 => ?_)
              · walk_at "r"
                refine ite_ndec (fun h4 => ?_) (fun h4 => ?_)
                · walk_at "r"
                  exact no (by unfold okch; simp; omega)
                · walk_at "r"
                  refine ite_dec (fun h5 => ?_) (fun h5 => ?_)
                  · walk_at "r"
                    exact no (by unfold okch; simp; omega)
                  · have hok : okch c = true := by unfold okch; simp; omega
                    walk_at "r"
                    refine ⟨c, rfl, hok, ?_⟩
                    walk_at "r"
                    exact ⟨_, _, s ++ [c], q2, by rw [tx_app], k2.trans k3, pmany_step _ hm (yes hok)⟩
              · walk_at "r"
                exact no (by unfold okch; simp; omega)
            · have hok : okch c = true := by unfold okch; simp; omega
              walk_at "r"
              refine ite_N (by omega) ?_
              walk_at "r"
              refine ⟨c, rfl, hok, ?_⟩
              walk_at "r"
              exact ⟨_, _, s ++ [c], q2, by rw [tx_app], k2.trans k3, pmany_step _ hm (yes hok)⟩
        · rintro σ H2 ⟨v2, v5, s, q', rfl, k2, hm⟩
          walk_at "r"
          simp only [Int.toNat_natCast] at hm
          intro t2 H3 nt k3 ht3
          exact q _ H3 (k2.trans k3) (oV_yes (by rw [e1]; exact hm) ht3 rfl)
theorem ok__law_read_mark (e : Env K mg A) : FnOk P w K mg base CX0 2 A.f__law_read_mark A.d__law_read_mark ["data", "at"] (spL pmk vM) := by
  have G__law_read_number := ok__law_read_number (P := P) (w := w) (base := base) e
  refine e.F__law_read_mark.ok sc__law_read_mark (fun vs H Q E h => ?_) (fun cdv AA outer s H vs Q E hr h => ?_)
  · obtain ⟨a, ds, p, rfl, _⟩ := h
    rfl
  · obtain ⟨a, ds, p, rfl, ha, hl, hn, q⟩ := h
    refine ⟨_, (pss_cons (ps_set (i := 2) sc__law_read_mark.nd rfl (Or.inl rfl) (pe_call G__law_read_number (hr.mono (by omega)) (by rfl) e.m__law_read_number e.k__law_read_number e.b__law_read_number .nil pass0 (pa_cons (pv 0) (pa_cons (pv 1) pa_nil))))
    (pss_cons (ps_set (i := 3) sc__law_read_mark.nd rfl (Or.inl rfl) (pe_ifExp (pt_cmpR op_isNo (pv 2) pe_non (nomark _)) pe_non (pe_call G__law_read_number (hr.mono (by omega)) (by rfl) e.m__law_read_number e.k__law_read_number e.b__law_read_number .nil pass0 (pa_cons (pv 0) (pa_cons (pe_ix (ix_tupK (K := K)) (pv 2) pe_int (fun _ _ => rfl)) pa_nil)))))
    (pss_one (ps_ret (pe_ifExp (pt_cmpR op_isNo (pv 3) pe_non (nomark _)) pe_non (pe_tup (pa_cons (pe_tup (pa_cons (pe_ix (ix_tupK (K := K)) (pv 2) pe_int (fun _ _ => rfl)) (pa_cons (pe_ix (ix_tupK (K := K)) (pv 3) pe_int (fun _ _ => rfl)) pa_nil))) (pa_cons (pe_ix (ix_tupK (K := K)) (pv 3) pe_int (fun _ _ => rfl)) pa_nil)))))))), ?_⟩
    refine enter (st__law_read_mark _ _) ?_
    walk_at "i"
    walk_at "r"
    refine ⟨a, ds, p, rfl, ha, hl, hn, fun v H1 k1 hv => ?_⟩
    cases hz : pnum ds p with
    | none =>
      rw [hz] at hv
      obtain rfl : v = .non := hv
      walk_at "r"
      exact q _ H1 k1 (oV_no (by unfold pmk; rw [hz]; rfl))
    | some z =>
      obtain ⟨n, q1⟩ := z
      rw [hz] at hv
      obtain ⟨t, u, rfl, ht, rfl⟩ := hv
      walk_at "r"
      refine ⟨a, ds, q1, rfl, k1.get ha (by simp), hl, hn, fun v H2 k2 hv => ?_⟩
      cases hz2 : pnum ds q1 with
      | none =>
        rw [hz2] at hv
        obtain rfl : v = .non := hv
        walk_at "r"
        exact q _ H2 (k1.trans k2) (oV_no (by unfold pmk; rw [hz]; simp only [Option.bind_some]; rw [hz2]; rfl))
      | some z =>
        obtain ⟨m, q2⟩ := z
        rw [hz2] at hv
        obtain ⟨t2, u2, rfl, ht2, rfl⟩ := hv
        walk_at "r"
        intro t3 H3 n3 k3 ht3
        walk_at "r"
        intro t4 H4 n4 k4 ht4
        exact q _ H4 (k1.trans (k2.trans (k3.trans k4))) (oV_yes (a := (n, m)) (by unfold pmk; rw [hz]; simp only [Option.bind_some]; rw [hz2]; rfl) ht4 ⟨t3, rfl, k4.get ht3 (by simp)⟩)
end My

end
section
set_option maxHeartbeats 4000000
local macro_rules | `(tactic| walk_at "k") => `(tactic| first
  | assumption
  | exact W.Keep.trans (by assumption) (by assumption)
  | exact And.intro (by grind [W.Keep, W.Kp]) (by grind [W.Keep, W.Kt])
  | grind [W.Keep, W.Kp])
local macro_rules | `(tactic| walk_at "f") => `(tactic| first
  | assumption
  | exact L2.SqL.of (by assumption)
  | exact L2.SqT.of (by assumption)
  | exact L2.SqL.of L2.upd_same
  | exact L2.SqT.of L2.upd_same
  | exact L2.upd_same
  | exact W.carryL (by assumption) (by assumption)
  | exact W.carryL (by assumption) (by walk_at "k")
  | exact W.carryT (by assumption) (by walk_at "k")
  | exact W.carry (by assumption) (by grind [W.Keep, W.Kp])
  | exact L2.SqL.of (W.carry (by assumption) (by grind [W.Keep, W.Kp]))
  | exact L2.SqT.of (W.carry (by assumption) (by grind [W.Keep, W.Kp])))
local macro_rules | `(tactic| walk_at "a") => `(tactic| first
  | assumption
  | rfl)
local macro_rules | `(tactic| walk_at "n") => `(tactic| first
  | assumption
  | exact Nat.zero_le _
  | decide
  | (simp only [List.length_cons, List.length_nil]; decide)
  | omega
  | (simp only [PySem.sizeLine_eq]; omega)
  | (simp only [List.length_map, List.length_append, List.length_cons, List.length_nil, PySem.sizeLine_eq]; omega)
  | (simp only [List.length_map, List.length_append, List.length_cons, List.length_nil, List.length_take, List.length_drop, PySem.sizeLine_eq]; omega)
  | (simp only [List.length_map, List.length_append, List.length_cons, List.length_nil, PySem.sizeLine_eq] at *; omega))
local macro_rules | `(tactic| walk_at "c") => `(tactic| first
  | assumption
  | decide
  | exact And.intro (by decide) (by decide)
  | exact Or.inr (And.intro (by decide) (by decide))
  | exact Or.inl (And.intro (by decide) (by decide))
  | exact And.intro (by decide) (And.intro (by decide) (by decide))
  | exact (show (0 : Int) < _ by decide)
  | exact And.intro (by omega) (by omega)
  | exact Or.inl (And.intro (by omega) (by omega))
  | exact Or.inr (And.intro (by omega) (by omega))
  | exact (show (0 : Int) < _ by omega))
local macro_rules | `(tactic| walk_at "v") => `(tactic| with_reducible first
  | refine W.v0 ?_ | refine W.v1 ?_ | refine W.v2 ?_ | refine W.v3 ?_ | refine W.v4 ?_ | refine W.v5 ?_ | refine W.v6 ?_ | refine W.v7 ?_ | refine W.v8 ?_
  | refine W.v9 ?_ | refine W.v10 ?_ | refine W.v11 ?_ | refine W.v12 ?_ | refine W.v13 ?_ | refine W.v14 ?_ | refine W.v15 ?_ | refine W.v16 ?_ | refine W.v17 ?_
  | refine W.g0 ?_ | refine W.g1 ?_ | refine W.g2 ?_ | refine W.g3 ?_ | refine W.g4 ?_ | refine W.g5 ?_ | refine W.g6 ?_ | refine W.g7 ?_ | refine W.g8 ?_
  | refine W.g9 ?_ | refine W.g10 ?_ | refine W.g11 ?_ | refine W.g12 ?_ | refine W.g13 ?_ | refine W.g14 ?_ | refine W.g15 ?_)
local macro_rules | `(tactic| walk_at "e") => `(tactic| with_reducible first
  | refine W.e_c ?_ | refine W.e_op ?_ | refine W.s_seq ?_ | refine W.s_asg ?_ | refine W.e_CB ?_ | refine W.a_cons ?_ | refine W.a_nil ?_ | refine W.e_call ?_
  | refine W.t_test ?_ | refine W.w_B ?_ | refine W.s_if ?_ | refine W.s_ret ?_ | refine W.s_drop ?_ | refine W.e_un ?_ | refine W.e_fld ?_ | refine W.s_fld ?_
  | refine W.e_meth ?_ | refine W.e_if ?_ | refine W.e_lst ?_ | refine W.e_tup ?_ | refine W.e_sl ?_ | refine W.o_none ?_ | refine W.o_some ?_ | refine W.w_part ?_
  | refine W.e_bm ?_ | refine W.e_bm0 ?_ | refine W.t_B ?_ | refine W.t_and ?_ | refine W.t_or ?_ | refine W.t_not ?_ | refine W.e_andV ?_ | refine W.e_orV ?_ | refine W.e_notV ?_ | refine W.w_BV ?_ | refine W.e_chain ?_
  | refine W.s_aug ?_ | refine W.s_augS ?_ | refine W.s_next ?_ | refine W.s_brk ?_ | refine W.s_cont ?_ | refine W.s_retN ?_ | refine W.s_fa ?_ | refine W.e_make ?_ | refine W.w_make ?_
  | refine W.w_I0 ?_ | refine W.w_U ?_ | refine W.w_aug ?_ | refine W.w_eqI ?_ | refine W.w_neI ?_ | refine W.w_eqS ?_ | refine W.w_neS ?_ | refine W.w_eqB ?_ | refine W.w_neB ?_
  | refine W.w_int ?_ | refine W.w_intB ?_ | refine W.w_min ?_ | refine W.w_max ?_ | refine W.w_isN ?_ | refine W.w_isI ?_ | refine W.w_isS ?_ | refine W.w_isB ?_ | refine W.w_isR ?_
  | refine W.w_notN ?_ | refine W.w_notI ?_ | refine W.w_notR ?_ | refine W.w_notS ?_ | refine W.w_eqNI ?_ | refine W.w_neNI ?_ | refine W.w_eqN ?_ | refine W.w_neN ?_
  | refine W.s_forL ?_ | refine W.s_forT ?_ | refine W.s_forS ?_ | refine W.s_forR1 ?_ | refine W.s_forR2 ?_ | refine W.s_forR3 ?_ | refine W.s_forZ ?_ | refine W.s_forE ?_
  | refine W.e_lcL ?_ | refine W.e_lcT ?_ | refine W.w_ord ?_ | refine W.e_lcR1 ?_ | refine W.e_lcR2 ?_ | refine W.e_lcZ ?_ | refine W.e_lcS ?_ | refine W.t_yes ?_ | refine W.w_gcons ?_ | refine W.w_gnil ?_ | refine W.s_par ?_ | refine W.w_par ?_ | refine W.g_sub ?_ | refine W.e_m1 ?_ | refine W.w_strR ?_ | refine W.w_rAdd ?_ | refine W.w_rSub ?_ | refine W.s_raise ?_ | refine W.s_try ?_ | refine W.e_methS ?_)
local macro_rules | `(tactic| walk_at "w") => `(tactic| first
  | ((with_reducible refine' W.w_I ?wh ?wq); (case wh => walk_at "c"))
  | ((with_reducible refine' W.w_ixL (n := 0) ?wh ?we ?wq); (case wh => walk_at "f"); (case we => walk_at "a"))
  | ((with_reducible refine' W.w_ixT (n := 0) ?wh ?we ?wq); (case wh => walk_at "f"); (case we => walk_at "a"))
  | ((with_reducible refine' W.w_lenL ?wh ?wq); (case wh => walk_at "f"))
  | ((with_reducible refine' W.w_lenT ?wh ?wq); (case wh => walk_at "f"))
  | ((with_reducible refine' W.w_lenS ?wh ?wq); (case wh => walk_at "n"))
  | ((with_reducible refine' W.w_app ?wh ?we ?wq); (case wh => walk_at "f"); (case we => walk_at "n"))
  | ((with_reducible refine' W.w_meth ?wh ?we ?wq); (case wh => walk_at "f"); (case we => first | assumption | rfl))
  | ((with_reducible refine' W.w_ixLTl ?wh ?we ?wq); (case wh => walk_at "f"); (case we => walk_at "a"))
  | ((with_reducible refine' W.w_ixLTt ?wh ?we ?wq); (case wh => walk_at "f"); (case we => walk_at "a"))
  | ((with_reducible refine' W.w_addS ?wh ?wq); (case wh => walk_at "n"))
  | ((with_reducible refine' W.w_set ?wh ?we ?wq); (case wh => walk_at "f"); (case we => walk_at "a"))
  | ((with_reducible refine' W.w_tup ?wh ?we ?wq); (case wh => walk_at "f"); (case we => first | assumption | rfl))
  | ((with_reducible refine' W.w_slS ?wh ?wq); (case wh => walk_at "n"))
  | ((with_reducible refine' W.w_rApp ?wh ?we ?wq); (case wh => walk_at "f"); (case we => walk_at "n"))
  | ((with_reducible refine' W.w_newL ?wh ?wq); (case wh => walk_at "n"))
  | ((with_reducible refine' W.w_newT ?wh ?wq); (case wh => walk_at "n"))
  | ((with_reducible refine' W.w_listL ?wh ?wq); (case wh => walk_at "f"))
  | ((with_reducible refine' W.w_tupL ?wh ?wq); (case wh => walk_at "f"))
  | ((with_reducible refine' W.w_slL ?wh ?wq); (case wh => walk_at "f"))
  | ((with_reducible refine' W.w_cat ?wh ?wf ?we ?wq); (case wh => walk_at "f"); (case wf => walk_at "f"); (case we => walk_at "n"))
  | ((with_reducible refine' W.w_catT ?wh ?wf ?wx ?wy ?we ?wq); (case wh => walk_at "f"); (case wf => walk_at "f"); (case wx => exact List.cons_ne_nil _ _); (case wy => exact List.cons_ne_nil _ _); (case we => walk_at "n"))
  | ((with_reducible refine' W.w_ext ?wh ?wf ?we ?wq); (case wh => walk_at "f"); (case wf => walk_at "f"); (case we => walk_at "n"))
  | ((with_reducible refine' W.w_recv ?wh ?wq); (case wh => walk_at "f"))
  | ((with_reducible refine' W.w_isi1 ?wh ?we ?wq); (case wh => assumption); (case we => decide +kernel))
  | ((with_reducible refine' W.w_isi0 ?wh ?we ?wq); (case wh => assumption); (case we => decide +kernel))
  | ((with_reducible refine' W.w_isiT10 ?wh ?wf ?we ?wg ?wq); (case wh => assumption); (case wf => walk_at "f"); (case we => decide +kernel); (case wg => decide +kernel))
  | ((with_reducible refine' W.w_isiT01 ?wh ?wf ?we ?wg ?wq); (case wh => assumption); (case wf => walk_at "f"); (case we => decide +kernel); (case wg => decide +kernel))
  | ((with_reducible refine' W.w_isiT00 ?wh ?wf ?we ?wg ?wq); (case wh => assumption); (case wf => walk_at "f"); (case we => decide +kernel); (case wg => decide +kernel))
  | ((with_reducible refine' W.w_ins ?wh ?we ?wf ?wq); (case wh => walk_at "f"); (case we => walk_at "n"); (case wf => walk_at "c"))
  | ((with_reducible refine' W.w_unl ?wh ?we ?wq); (case wh => walk_at "f"); (case we => first | assumption | rfl))
  | ((with_reducible refine' W.ite_T ?_))
  | ((with_reducible refine' W.ite_F ?_))
  | ((with_reducible refine' W.ite_nT ?_))
  | ((with_reducible refine' W.ite_nF ?_))
  | ((with_reducible refine' W.ite_self ?_))
  | ((with_reducible refine' W.ite_nself ?_))
  | ((with_reducible refine' W.ite_tf ?_))
  | ((with_reducible refine' W.ite_ft ?_))
  | ((with_reducible refine' W.ite_ntf ?_))
  | ((with_reducible refine' W.ite_nft ?_))
  | ((with_reducible refine' And.intro ?wl ?wq); (case wl => rfl)))
local macro_rules | `(tactic| walk_at "i") => `(tactic| try (dsimp only [L2.cxOf, L2.wipe, List.map, List.set]))
local macro_rules | `(tactic| walk_at "s") => `(tactic| first | walk_at "v" | walk_at "e" | walk_at "w")
local macro_rules | `(tactic| walk_at "r") => `(tactic| repeat walk_at "s")

namespace My
open PySem L2 W
variable {P : Program} {w : World} {K : PySem.W.Frag} {mg : Str → Option Value} {base : Heap} {A : Adr}
theorem at_ds0 {ds : List Int} {p : Nat} (hp : p < ds.length) : atI (ds.map V.int) (p : Int) = some (.int (ds.getD p 0)) := by
  have := at_ds (p := p) (i := 0) (by simpa using hp)
  simpa using this
theorem nn_ds {ds : List Int} {p : Nat} (hn : ∀ b ∈ ds, 0 ≤ b) (hp : p < ds.length) : 0 ≤ ds.getD p 0 := by
  rw [List.getD_eq_getElem?_getD, List.getElem?_eq_getElem hp]
  exact hn _ (List.getElem_mem hp)
theorem pch_yes {ds : List Int} {p : Nat} (hp : p < ds.length) : pch ds p = if 2 ≤ ds.getD p 0 then none else some (ds.getD p 0, p + 1) := by unfold pch; rw [pbyte_yes hp]; rfl
theorem pch_no {ds : List Int} {p : Nat} (hp : ¬ p < ds.length) : pch ds p = none := by unfold pch; rw [pbyte_no hp]; rfl
/-- items read one after another into a list, by the law -/
def ManyL {α : Type} (P : Rdr α) (Val : Hp → α → V → Prop) (H : Hp) (ds : List Int) (p : Nat) (D : Addr) (i q : Nat) (H' : Hp) : Prop :=
  ∃ (us : List V) (l : List α), Keep [] H H' ∧ H' D = some (.lst us) ∧ pmany (P ds) i p = some (l, q) ∧ Paired (fun v a => Val H' a v) us l
theorem ManyL.next {α : Type} {P : Rdr α} {Val : Hp → α → V → Prop} (sy : Stays Val) {H H3 H4 H5 : Hp} {D : Addr} {ds : List Int} {p q q2 i : Nat} {us : List V} {l : List α} {a : α} {v : V} (nD : H D = none)
    (k3 : Keep [] H H3) (hm : pmany (P ds) i p = some (l, q)) (hp : Paired (fun v a => Val H3 a v) us l) (ha : P ds q = some (a, q2)) (k4 : Keep [] H3 H4) (hv : Val H4 a v) (k5 : Keep [D] H4 H5) (h5 : H5 D = some (.lst (us ++ [v]))) :
    ManyL P Val H ds p D (i + 1) q2 H5 :=
  ⟨us ++ [v], l ++ [a], (k3.trans k4).mut nD k5, h5, pmany_step _ hm ha, Paired.snoc (Paired.mapP hp fun _ _ h => sy _ _ _ _ _ h ((k4.any (S := [D])).trans k5)) (sy _ _ _ _ _ hv k5)⟩
theorem ok__law_read_deed (e : Env K mg A) : FnOk P w K mg base CX0 3 A.f__law_read_deed A.d__law_read_deed ["data", "at"] (spL pdd vD) := by
  have G__law_read_number := ok__law_read_number (P := P) (w := w) (base := base) e
  have G__law_read_text := ok__law_read_text (P := P) (w := w) (base := base) e
  have G__law_read_mark := ok__law_read_mark (P := P) (w := w) (base := base) e
  refine e.F__law_read_deed.ok sc__law_read_deed (fun vs H Q E h => ?_) (fun cdv AA outer s H vs Q E hr h => ?_)
  · obtain ⟨a, ds, p, rfl, _⟩ := h
    rfl
  · obtain ⟨a, ds, p, rfl, ha, hl, hn, q⟩ := h
    refine ⟨_, (pss_cons (ps_if (PW.pt (pw_or (pt_cmpR op_ge (pv 1) (pe_callB (call_lenLK (K := K)) (by rfl) e.n_len (by decide +kernel) (pa_cons (pv 0) pa_nil)) (nomark _)) (pw_or1 (pt_cmpR op_gt (pe_ix (ix_listK (K := K)) (pv 0) (pv 1) (fun _ _ => rfl)) pe_int (nomark _))))) (pss_one (ps_ret pe_non)) pss_nil)
    (pss_cons (ps_if (pt_cmpR op_eq (pe_ix (ix_listK (K := K)) (pv 0) (pv 1) (fun _ _ => rfl)) pe_int (nomark _)) (pss_cons (ps_set (i := 2) sc__law_read_deed.nd rfl (Or.inl rfl) (pe_call G__law_read_number (hr.mono (by omega)) (by rfl) e.m__law_read_number e.k__law_read_number e.b__law_read_number .nil pass0 (pa_cons (pv 0) (pa_cons (pe_op op_add (pv 1) pe_int) pa_nil))))
    (pss_one (ps_ret (pe_ifExp (pt_cmpR op_isNo (pv 2) pe_non (nomark _)) pe_non (pe_tup (pa_cons (pe_tup (pa_cons pe_str (pa_cons (pe_ix (ix_tupK (K := K)) (pv 2) pe_int (fun _ _ => rfl)) pa_nil))) (pa_cons (pe_ix (ix_tupK (K := K)) (pv 2) pe_int (fun _ _ => rfl)) pa_nil))))))) pss_nil)
    (pss_cons (ps_set (i := 3) sc__law_read_deed.nd rfl (Or.inl rfl) (pe_call G__law_read_text (hr.mono (by omega)) (by rfl) e.m__law_read_text e.k__law_read_text e.b__law_read_text .nil pass0 (pa_cons (pv 0) (pa_cons (pe_op op_add (pv 1) pe_int) pa_nil))))
    (pss_cons (ps_set (i := 4) sc__law_read_deed.nd rfl (Or.inl rfl) (pe_ifExp (pt_cmpR op_isNo (pv 3) pe_non (nomark _)) pe_non (pe_call G__law_read_number (hr.mono (by omega)) (by rfl) e.m__law_read_number e.k__law_read_number e.b__law_read_number .nil pass0 (pa_cons (pv 0) (pa_cons (pe_ix (ix_tupK (K := K)) (pv 3) pe_int (fun _ _ => rfl)) pa_nil)))))
    (pss_cons (ps_if (PW.pt (pw_or (pt_cmpR op_isNo (pv 4) pe_non (nomark _)) (pw_or1 (pt_cmpR op_gt (pe_ix (ix_tupK (K := K)) (pv 4) pe_int (fun _ _ => rfl)) (pe_op op_sub (pe_callB (call_lenLK (K := K)) (by rfl) e.n_len (by decide +kernel) (pa_cons (pv 0) pa_nil)) (pe_ix (ix_tupK (K := K)) (pv 4) pe_int (fun _ _ => rfl))) (nomark _))))) (pss_one (ps_ret pe_non)) pss_nil)
    (pss_cons (ps_set (i := 1) sc__law_read_deed.nd rfl (Or.inl rfl) (pe_ix (ix_tupK (K := K)) (pv 4) pe_int (fun _ _ => rfl)))
    (pss_cons (ps_set (i := 5) sc__law_read_deed.nd rfl (Or.inl rfl) (pe_lst pa_nil))
    (pss_cons (ps_for PassesOwn.never rfl (pi_range1 rfl e.n_range (pa_cons (pe_ix (ix_tupK (K := K)) (pv 4) pe_int (fun _ _ => rfl)) pa_nil)) (pg_name (i := 6) sc__law_read_deed.nd rfl (Or.inl rfl)) (pss_cons (ps_set (i := 2) sc__law_read_deed.nd rfl (Or.inl rfl) (pe_call G__law_read_mark (hr.mono (by omega)) (by rfl) e.m__law_read_mark e.k__law_read_mark e.b__law_read_mark .nil pass0 (pa_cons (pv 0) (pa_cons (pv 1) pa_nil))))
    (pss_cons (ps_if (pt_cmpR op_isNo (pv 2) pe_non (nomark _)) (pss_one (ps_ret pe_non)) pss_nil)
    (pss_cons (ps_expr (pe_bmK (K := K) PySem.F.plainAttrs_list PySem.F.slot_list_append PySem.F.type_list_append mt_append (pv 5) (pa_cons (pe_ix (ix_tupK (K := K)) (pv 2) pe_int (fun _ _ => rfl)) pa_nil)))
    (pss_one (ps_set (i := 1) sc__law_read_deed.nd rfl (Or.inl rfl) (pe_ix (ix_tupK (K := K)) (pv 2) pe_int (fun _ _ => rfl))))))))
    (pss_cons (ps_if (PW.pt (pw_or (pt_cmpR op_ge (pv 1) (pe_callB (call_lenLK (K := K)) (by rfl) e.n_len (by decide +kernel) (pa_cons (pv 0) pa_nil)) (nomark _)) (pw_or1 (pt_cmpR op_gt (pe_ix (ix_listK (K := K)) (pv 0) (pv 1) (fun _ _ => rfl)) pe_int (nomark _))))) (pss_one (ps_ret pe_non)) pss_nil)
    (Evl.pss_cut (ps_set (i := 7) sc__law_read_deed.nd rfl (Or.inl rfl) (pe_ifExp (pt_cmpR op_eq (pe_ix (ix_listK (K := K)) (pv 0) (pv 1) (fun _ _ => rfl)) pe_int (nomark _)) (pe_tup (pa_cons pe_non (pa_cons (pe_op op_add (pv 1) pe_int) pa_nil))) (pe_call G__law_read_mark (hr.mono (by omega)) (by rfl) e.m__law_read_mark e.k__law_read_mark e.b__law_read_mark .nil pass0 (pa_cons (pv 0) (pa_cons (pe_op op_add (pv 1) pe_int) pa_nil)))))
    (pss_cons (ps_set (i := 8) sc__law_read_deed.nd rfl (Or.inl rfl) (pe_ifExp (pt_cmpR op_isNo (pv 7) pe_non (nomark _)) pe_non (pe_call G__law_read_number (hr.mono (by omega)) (by rfl) e.m__law_read_number e.k__law_read_number e.b__law_read_number .nil pass0 (pa_cons (pv 0) (pa_cons (pe_ix (ix_tupK (K := K)) (pv 7) pe_int (fun _ _ => rfl)) pa_nil)))))
    (pss_cons (ps_set (i := 9) sc__law_read_deed.nd rfl (Or.inl rfl) (pe_ifExp (pt_cmpR op_isNo (pv 8) pe_non (nomark _)) pe_non (pe_call G__law_read_text (hr.mono (by omega)) (by rfl) e.m__law_read_text e.k__law_read_text e.b__law_read_text .nil pass0 (pa_cons (pv 0) (pa_cons (pe_ix (ix_tupK (K := K)) (pv 8) pe_int (fun _ _ => rfl)) pa_nil)))))
    (pss_one (ps_ret (pe_ifExp (pt_cmpR op_isNo (pv 9) pe_non (nomark _)) pe_non (pe_tup (pa_cons (pe_tup (pa_cons pe_str (pa_cons (pe_ix (ix_tupK (K := K)) (pv 3) pe_int (fun _ _ => rfl)) (pa_cons (pe_callTy (call_tupleLK (K := K)) (by rfl) e.n_tuple (by decide +kernel) (pa_cons (pv 5) pa_nil)) (pa_cons (pe_ix (ix_tupK (K := K)) (pv 7) pe_int (fun _ _ => rfl)) (pa_cons (pe_ix (ix_tupK (K := K)) (pv 8) pe_int (fun _ _ => rfl)) (pa_cons (pe_ix (ix_tupK (K := K)) (pv 9) pe_int (fun _ _ => rfl)) pa_nil))))))) (pa_cons (pe_ix (ix_tupK (K := K)) (pv 9) pe_int (fun _ _ => rfl)) pa_nil)))))))))))))))))), ?_⟩
    refine enter (st__law_read_deed _ _) ?_
    walk_at "i"
    walk_at "r"
    rw [List.length_map]
    refine ite_dec (fun h1 => ?_) (fun h1 => ?_)
    · walk_at "r"
      exact q _ H Keep.refl (oV_no (by unfold pdd; rw [pch_no (by omega)]; rfl))
    have hp : p < ds.length := by omega
    have hat := at_ds0 hp
    have hc := pch_yes hp
    generalize ds.getD p 0 = b at hat hc
    walk_at "r"
    refine ite_dec (fun h2 => ?_) (fun h2 => ?_)
    · walk_at "r"
      exact q _ H Keep.refl (oV_no (by unfold pdd; rw [hc, if_pos (by omega)]; rfl))
    rw [if_neg (by omega)] at hc
    walk_at "r"
    refine ite_dec (fun h3 => ?_) (fun h3 => ?_)
    · have e1 := pdd_1 hc h3
      walk_at "r"
      refine ⟨a, ds, p + 1, rfl, ha, hl, hn, fun v H1 k1 hv => ?_⟩
      cases hz : pnum ds (p + 1) with
      | none =>
        rw [hz] at hv
        obtain rfl : v = .non := hv
        walk_at "r"
        exact q _ H1 k1 (oV_no (by rw [e1, hz]; rfl))
      | some z =>
        obtain ⟨n, q1⟩ := z
        rw [hz] at hv
        obtain ⟨t, u, rfl, ht, rfl⟩ := hv
        walk_at "r"
        intro t3 H3 n3 k3 ht3
        walk_at "r"
        intro t4 H4 n4 k4 ht4
        exact q _ H4 (k1.trans (k3.trans k4)) (oV_yes (a := .back n) (by rw [e1, hz]; rfl) ht4 (show vD H4 (.back n) _ from ⟨t3, rfl, k4.get ht3 (by simp)⟩))
    have e1 := pdd_0 hc h3
    walk_at "r"
    refine ⟨a, ds, p + 1, rfl, ha, hl, hn, fun v H1 k1 hv => ?_⟩
    cases hz : pstr ds (p + 1) with
    | none =>
      rw [hz] at hv
      obtain rfl : v = .non := hv
      walk_at "r"
      exact q _ H1 k1 (oV_no (by rw [e1, hz]; rfl))
    | some z =>
      obtain ⟨m, q1⟩ := z
      rw [hz] at hv
      obtain ⟨tm, u, rfl, htm, rfl⟩ := hv
      have e2 : pdd ds p = pdd2 ds m q1 := by rw [e1, hz]; rfl
      clear e1 hz hc hat
      walk_at "r"
      refine ⟨a, ds, q1, rfl, k1.get ha (by simp), hl, hn, fun v H2 k2 hv => ?_⟩
      cases hz : pnum ds q1 with
      | none =>
        rw [hz] at hv
        obtain rfl : v = .non := hv
        walk_at "r"
        exact q _ H2 (k1.trans k2) (oV_no (by rw [e2]; unfold pdd2 plist pcnt; rw [hz]; rfl))
      | some z =>
        obtain ⟨n, q2⟩ := z
        rw [hz] at hv
        obtain ⟨tc, u, rfl, htc, rfl⟩ := hv
        have hcn : pcnt ds q1 = if ds.length < n + q2 then none else some (n, q2) := by unfold pcnt; rw [hz]; rfl
        have ha2 := (k1.trans k2).get ha (by simp)
        have htm2 := k2.get htm (by simp)
        have k12 := k1.trans k2
        clear htm k1 k2 hz
        walk_at "r"
        rw [List.length_map]
        refine ite_dec (fun h4 => ?_) (fun h4 => ?_)
        · walk_at "r"
          exact q _ H2 k12 (oV_no (by rw [e2]; unfold pdd2 plist; rw [hcn, if_pos (by omega)]; rfl))
        rw [if_neg (by omega)] at hcn
        have e3 : plist pmk ds q1 = pmany (pmk ds) n q2 := by unfold plist; rw [hcn]; rfl
        walk_at "r"
        intro M H3 nM k3 hM
        have ha3 := k3.get ha2 (by simp)
        have htm3 := k3.get htm2 (by simp)
        have htc3 := k3.get htc (by simp)
        have k13 := k12.trans k3
        clear ha2 htc hcn
        walk_at "r"
        refine forR1 (by omega) (by omega) (fun i σ H' => ∃ (v2 v6 : Option V) (q' : Nat), σ = [some (.ref a), some (.int (q' : Int)), v2, some (.ref tm), some (.ref tc), some (.ref M), v6, none, none, none] ∧ ManyL pmk vM H2 ds q2 M i q' H')
          ⟨_, _, q2, rfl, [], [], k3, hM, rfl, Paired.nil⟩ ?_ ?_
        · rintro i σ H4 hi ⟨v2, v6, q', rfl, us, l, k4, hM4, hmm, hpd⟩
          have hul : us.length = i := by rw [Paired.length hpd, pmany_len _ hmm]
          have ha4 := (k12.trans k4).get ha (by simp)
          walk_at "r"
          refine ⟨a, ds, q', rfl, ha4, hl, hn, fun v H5 k5 hv => ?_⟩
          cases hz2 : pmk ds q' with
          | none =>
            rw [hz2] at hv
            obtain rfl : v = .non := hv
            walk_at "r"
            exact q _ H5 (k12.trans (k4.trans k5)) (oV_no (by rw [e2]; unfold pdd2; rw [e3, pmany_stop (pmk ds) hmm hz2 (by omega)]; rfl))
          | some z =>
            obtain ⟨mk, q3⟩ := z
            rw [hz2] at hv
            obtain ⟨t2, u2, rfl, ht2, hu2⟩ := hv
            have hM5 := k5.get hM4 (by simp)
            walk_at "r"
            intro H6 k6 h6
            have ht6 := k6.2 _ _ ht2
            walk_at "r"
            exact ⟨_, _, q3, rfl, ManyL.next stays_M nM k4 hmm hpd hz2 k5 hu2 k6 h6⟩
        · rintro σ H4 ⟨v2, v6, q3, rfl, us, rm, k4, hM4, hmm, hpd⟩
          simp only [Int.toNat_natCast] at hmm
          rw [← e3] at hmm
          have hul : us.length ≤ 1000000 := by
            have := plist_len hmm
            rw [show us.length = rm.length from Paired.length hpd]; omega
          have e4 : pdd ds p = pdd3 ds m rm q3 := by rw [e2]; unfold pdd2; rw [hmm]; rfl
          have ha4 := (k12.trans k4).get ha (by simp)
          have htm4 := k4.get htm2 (by simp)
          have k14 := k12.trans k4
          clear htm2 htm3 htc3 ha3 e2 e3 k12 k4 k3 k13 hM nM hmm
          walk_at "r"
          rw [List.length_map]
          refine ite_dec (fun h1 => ?_) (fun h1 => ?_)
          · walk_at "r"
            exact q _ H4 k14 (oV_no (by rw [e4]; unfold pdd3 pbh; rw [pch_no (by omega)]; rfl))
          have hp : q3 < ds.length := by omega
          have hat := at_ds0 hp
          have hc := pch_yes hp
          have hb0 := nn_ds hn hp
          generalize ds.getD q3 0 = b at hat hc hb0
          walk_at "r"
          refine ite_dec (fun h2 => ?_) (fun h2 => ?_)
          · walk_at "r"
            exact q _ H4 k14 (oV_no (by rw [e4]; unfold pdd3 pbh; rw [hc, if_pos (by omega)]; rfl))
          rw [if_neg (by omega)] at hc
          walk_at "r"
          refine s_cut (fun σ' H' => ∃ v7, σ' = [some (.ref a), some (.int (q3 : Int)), v2, some (.ref tm), some (.ref tc), some (.ref M), v6, some v7, none, none] ∧ Keep [] H4 H' ∧ oV vB H' (pbh ds q3) v7) ?_ ?_
          · walk_at "i"
            walk_at "r"
            refine ite_dec (fun h3 => ?_) (fun h3 => ?_)
            · walk_at "r"
              intro t5 H5 n5 k5 ht5
              walk_at "r"
              exact ⟨_, rfl, k5, oV_yes (pbh_0 hc (by omega)) ht5 rfl⟩
            · have e5 := pbh_1 hc (by omega)
              walk_at "r"
              refine ⟨a, ds, q3 + 1, rfl, ha4, hl, hn, fun v H5 k5 hv => ?_⟩
              walk_at "r"
              refine ⟨v, rfl, k5, ?_⟩
              rw [e5]
              cases hz : pmk ds (q3 + 1) with
              | none => rw [hz] at hv; exact hv
              | some z => rw [hz] at hv; exact hv
          · rintro σ' H5 ⟨v7, rfl, k5, hv7⟩
            have ha5 := k5.get ha4 (by simp)
            have htm5 := k5.get htm4 (by simp)
            have hM5 := k5.get hM4 (by simp)
            have hpd5 := vMs.keep (show vMs H4 rm us from hpd) k5
            have k15 := k14.trans k5
            clear ha4 htm4 hM4 hpd k5 k14 hat hc
            cases hz : pbh ds q3 with
            | none =>
              rw [hz] at hv7
              obtain rfl : v7 = .non := hv7
              walk_at "r"
              exact q _ H5 k15 (oV_no (by rw [e4]; unfold pdd3; rw [hz]; rfl))
            | some z =>
              obtain ⟨bh, q4⟩ := z
              rw [hz] at hv7
              obtain ⟨tb, bv, rfl, htb, hB⟩ := hv7
              have e5 : pdd ds p = pdd4 ds m rm bh q4 := by rw [e4]; unfold pdd3; rw [hz]; rfl
              clear e4 hz
              walk_at "r"
              refine ⟨a, ds, q4, rfl, ha5, hl, hn, fun v H6 k6 hv => ?_⟩
              cases hz : pnum ds q4 with
              | none =>
                rw [hz] at hv
                obtain rfl : v = .non := hv
                walk_at "r"
                exact q _ H6 (k15.trans k6) (oV_no (by rw [e5]; unfold pdd4; rw [hz]; rfl))
              | some z =>
                obtain ⟨num, q5⟩ := z
                rw [hz] at hv
                obtain ⟨tn, u, rfl, htn, rfl⟩ := hv
                have e6 : pdd ds p = pdd5 ds m rm bh num q5 := by rw [e5]; unfold pdd4; rw [hz]; rfl
                have ha6 := k6.get ha5 (by simp)
                clear e5 hz ha5
                walk_at "r"
                refine ⟨a, ds, q5, rfl, ha6, hl, hn, fun v H7 k7 hv => ?_⟩
                cases hz : pstr ds q5 with
                | none =>
                  rw [hz] at hv
                  obtain rfl : v = .non := hv
                  walk_at "r"
                  exact q _ H7 (k15.trans (k6.trans k7)) (oV_no (by rw [e6]; unfold pdd5; rw [hz]; rfl))
                | some z =>
                  obtain ⟨tt, q6⟩ := z
                  rw [hz] at hv
                  obtain ⟨tx_, u, rfl, htx, rfl⟩ := hv
                  have k67 := k6.trans k7
                  have htm7 := k67.get htm5 (by simp)
                  have hM7 := k67.get hM5 (by simp)
                  have htb7 := k67.get htb (by simp)
                  have htn7 := k7.get htn (by simp)
                  have hpd7 := vMs.keep hpd5 k67
                  have hB7 := vB.keep hB k67
                  have k17 := k15.trans k67
                  clear htm5 hM5 htb htn hpd5 hB k67 k15 k6 k7 ha6
                  walk_at "r"
                  intro t8 H8 n8 k8 ht8
                  have htm8 := k8.get htm7 (by simp)
                  have htb8 := k8.get htb7 (by simp)
                  have htn8 := k8.get htn7 (by simp)
                  have htx8 := k8.get htx (by simp)
                  walk_at "r"
                  intro t9 H9 n9 k9 ht9
                  have htx9 := k9.get htx8 (by simp)
                  walk_at "r"
                  intro t10 H10 n10 k10 ht10
                  have k810 := k8.trans (k9.trans k10)
                  exact q _ H10 (k17.trans k810) (oV_yes (a := .chg m rm bh num tt) (by rw [e6]; unfold pdd5; rw [hz]; rfl) ht10
                    (show vD H10 (.chg m rm bh num tt) _ from ⟨t9, t8, us, bv, rfl, k10.get ht9 (by simp), (k9.trans k10).get ht8 (by simp), vMs.keep hpd7 k810, vB.keep hB7 k810⟩))
theorem ok__law_read_triples (e : Env K mg A) : FnOk P w K mg base CX0 4 A.f__law_read_triples A.d__law_read_triples ["data", "at"] (spL ptrs vTl) := by
  have G__law_read_number := ok__law_read_number (P := P) (w := w) (base := base) e
  have G__law_read_mark := ok__law_read_mark (P := P) (w := w) (base := base) e
  have G__law_read_deed := ok__law_read_deed (P := P) (w := w) (base := base) e
  refine e.F__law_read_triples.ok sc__law_read_triples (fun vs H Q E h => ?_) (fun cdv AA outer s H vs Q E hr h => ?_)
  · obtain ⟨a, ds, p, rfl, _⟩ := h
    rfl
  · obtain ⟨a, ds, p, rfl, ha, hl, hn, q⟩ := h
    refine ⟨_, (pss_cons (ps_set (i := 2) sc__law_read_triples.nd rfl (Or.inl rfl) (pe_call G__law_read_number (hr.mono (by omega)) (by rfl) e.m__law_read_number e.k__law_read_number e.b__law_read_number .nil pass0 (pa_cons (pv 0) (pa_cons (pv 1) pa_nil))))
    (pss_cons (ps_if (PW.pt (pw_or (pt_cmpR op_isNo (pv 2) pe_non (nomark _)) (pw_or1 (pt_cmpR op_gt (pe_ix (ix_tupK (K := K)) (pv 2) pe_int (fun _ _ => rfl)) (pe_op op_sub (pe_callB (call_lenLK (K := K)) (by rfl) e.n_len (by decide +kernel) (pa_cons (pv 0) pa_nil)) (pe_ix (ix_tupK (K := K)) (pv 2) pe_int (fun _ _ => rfl))) (nomark _))))) (pss_one (ps_ret pe_non)) pss_nil)
    (pss_cons (ps_set (i := 1) sc__law_read_triples.nd rfl (Or.inl rfl) (pe_ix (ix_tupK (K := K)) (pv 2) pe_int (fun _ _ => rfl)))
    (pss_cons (ps_set (i := 3) sc__law_read_triples.nd rfl (Or.inl rfl) (pe_lst pa_nil))
    (pss_cons (ps_for PassesOwn.never rfl (pi_range1 rfl e.n_range (pa_cons (pe_ix (ix_tupK (K := K)) (pv 2) pe_int (fun _ _ => rfl)) pa_nil)) (pg_name (i := 4) sc__law_read_triples.nd rfl (Or.inl rfl)) (pss_cons (ps_set (i := 5) sc__law_read_triples.nd rfl (Or.inl rfl) (pe_call G__law_read_mark (hr.mono (by omega)) (by rfl) e.m__law_read_mark e.k__law_read_mark e.b__law_read_mark .nil pass0 (pa_cons (pv 0) (pa_cons (pv 1) pa_nil))))
    (pss_cons (ps_set (i := 6) sc__law_read_triples.nd rfl (Or.inl rfl) (pe_ifExp (pt_cmpR op_isNo (pv 5) pe_non (nomark _)) pe_non (pe_call G__law_read_deed (hr.mono (by omega)) (by rfl) e.m__law_read_deed e.k__law_read_deed e.b__law_read_deed .nil pass0 (pa_cons (pv 0) (pa_cons (pe_ix (ix_tupK (K := K)) (pv 5) pe_int (fun _ _ => rfl)) pa_nil)))))
    (pss_cons (ps_if (pt_cmpR op_isNo (pv 6) pe_non (nomark _)) (pss_one (ps_ret pe_non)) pss_nil)
    (pss_cons (ps_expr (pe_bmK (K := K) PySem.F.plainAttrs_list PySem.F.slot_list_append PySem.F.type_list_append mt_append (pv 3) (pa_cons (pe_op (op_catTK (K := K)) (pe_ix (ix_tupK (K := K)) (pv 5) pe_int (fun _ _ => rfl)) (pe_tup (pa_cons (pe_ix (ix_tupK (K := K)) (pv 6) pe_int (fun _ _ => rfl)) pa_nil))) pa_nil)))
    (pss_one (ps_set (i := 1) sc__law_read_triples.nd rfl (Or.inl rfl) (pe_ix (ix_tupK (K := K)) (pv 6) pe_int (fun _ _ => rfl)))))))))
    (pss_one (ps_ret (pe_tup (pa_cons (pv 3) (pa_cons (pv 1) pa_nil)))))))))), ?_⟩
    refine enter (st__law_read_triples _ _) ?_
    walk_at "i"
    walk_at "r"
    refine ⟨a, ds, p, rfl, ha, hl, hn, fun v H2 k2 hv => ?_⟩
    cases hz : pnum ds p with
    | none =>
      rw [hz] at hv
      obtain rfl : v = .non := hv
      walk_at "r"
      exact q _ H2 k2 (oV_no (by unfold ptrs plist pcnt; rw [hz]; rfl))
    | some z =>
      obtain ⟨n, q2⟩ := z
      rw [hz] at hv
      obtain ⟨tc, u, rfl, htc, rfl⟩ := hv
      have hcn : pcnt ds p = if ds.length < n + q2 then none else some (n, q2) := by unfold pcnt; rw [hz]; rfl
      have ha2 := k2.get ha (by simp)
      walk_at "r"
      rw [List.length_map]
      refine ite_dec (fun h4 => ?_) (fun h4 => ?_)
      · walk_at "r"
        exact q _ H2 k2 (oV_no (by unfold ptrs plist; rw [hcn, if_pos (by omega)]; rfl))
      rw [if_neg (by omega)] at hcn
      have e3 : ptrs ds p = pmany (ptr ds) n q2 := by unfold ptrs plist; rw [hcn]; rfl
      walk_at "r"
      intro M H3 nM k3 hM
      have ha3 := k3.get ha2 (by simp)
      have htc3 := k3.get htc (by simp)
      clear htc hcn hz
      walk_at "r"
      refine forR1 (by omega) (by omega) (fun i σ H' => ∃ (v4 v5 v6 : Option V) (q' : Nat), σ = [some (.ref a), some (.int (q' : Int)), some (.ref tc), some (.ref M), v4, v5, v6] ∧ ManyL ptr vT H2 ds q2 M i q' H')
        ⟨_, _, _, q2, rfl, [], [], k3, hM, rfl, Paired.nil⟩ ?_ ?_
      · rintro i σ H4 hi ⟨v4, v5, v6, q', rfl, us, l, k4, hM4, hmm, hpd⟩
        have hul : us.length = i := by rw [Paired.length hpd, pmany_len _ hmm]
        have ha4 := (k2.trans k4).get ha (by simp)
        have fail : ptr ds q' = none → ∀ H', Keep [] H4 H' → Q .non H' := fun hf H' k => q _ H' (k2.trans (k4.trans k)) (oV_no (by rw [e3]; exact pmany_stop (ptr ds) hmm hf (by omega)))
        clear ha3 htc3 ha2
        walk_at "r"
        refine ⟨a, ds, q', rfl, ha4, hl, hn, fun v H5 k5 hv => ?_⟩
        have e1 : ptr ds q' = (pmk ds q').bind fun y => (pdd ds y.2).map fun d => (⟨y.1.1, y.1.2, d.1⟩, d.2) := by
          unfold ptr pmk
          cases pnum ds q' with
          | none => rfl
          | some y =>
            simp only [Option.bind_some]
            cases pnum ds y.2 with
            | none => rfl
            | some z => rfl
        cases hz2 : pmk ds q' with
        | none =>
          rw [hz2] at hv
          obtain rfl : v = .non := hv
          walk_at "r"
          exact fail (by rw [e1, hz2]; rfl) H5 k5
        | some z =>
          obtain ⟨mk, q3⟩ := z
          rw [hz2] at hv
          obtain ⟨t2, u2, rfl, ht2, tm, rfl, htm⟩ := hv
          have ha5 := k5.get ha4 (by simp)
          walk_at "r"
          refine ⟨a, ds, q3, rfl, ha5, hl, hn, fun v H6 k6 hv => ?_⟩
          cases hz3 : pdd ds q3 with
          | none =>
            rw [hz3] at hv
            obtain rfl : v = .non := hv
            walk_at "r"
            exact fail (by rw [e1, hz2]; simp only [Option.bind_some]; rw [hz3]; rfl) H6 (k5.trans k6)
          | some z =>
            obtain ⟨dd, q4⟩ := z
            rw [hz3] at hv
            obtain ⟨t4, u4, rfl, ht4, hd4⟩ := hv
            have hM6 := (k5.trans k6).get hM4 (by simp)
            have ht26 := k6.get ht2 (by simp)
            have htm6 := k6.get htm (by simp)
            clear ht2 htm ha5 ha4 hM4
            walk_at "r"
            intro t5 H7 n7 k7 ht5
            have hM7 := k7.get hM6 (by simp)
            have ht27 := k7.get ht26 (by simp)
            have htm7 := k7.get htm6 (by simp)
            have ht47 := k7.get ht4 (by simp)
            clear hM6 ht26 htm6 ht4
            walk_at "r"
            intro t8 H8 n8 k8 ht8
            have hM8 := k8.get hM7 (by simp)
            have ht48 := k8.get ht47 (by simp)
            walk_at "r"
            intro H9 k9 h9
            have ht49 := k9.2 _ _ ht48
            walk_at "r"
            exact ⟨_, _, _, q4, rfl, ManyL.next (a := (⟨mk.1, mk.2, dd⟩ : Tri)) stays_T nM k4 hmm hpd (by rw [e1, hz2]; simp only [Option.bind_some]; rw [hz3]; rfl) (k5.trans (k6.trans (k7.trans k8))) ⟨t8, u4, rfl, ht8, vD.keep hd4 (k7.trans k8)⟩ k9 h9⟩
      · rintro σ H4 ⟨v4, v5, v6, q3, rfl, us, ts, k4, hM4, hmm, hpd⟩
        simp only [Int.toNat_natCast] at hmm
        walk_at "r"
        intro t5 H5 n5 k5 ht5
        exact q _ H5 (k2.trans (k4.trans k5)) (oV_yes (by rw [e3]; exact hmm) ht5 ⟨M, us, rfl, k5.get hM4 (by simp), vTs.keep hpd k5⟩)
theorem ok__law_read_packet (e : Env K mg A) : FnOk P w K mg base CX0 5 A.f__law_read_packet A.d__law_read_packet ["data", "at"] (spL ppk vTl) := by
  have G__law_read_triples := ok__law_read_triples (P := P) (w := w) (base := base) e
  refine e.F__law_read_packet.ok sc__law_read_packet (fun vs H Q E h => ?_) (fun cdv AA outer s H vs Q E hr h => ?_)
  · obtain ⟨a, ds, p, rfl, _⟩ := h
    rfl
  · obtain ⟨a, ds, p, rfl, ha, hl, hn, q⟩ := h
    refine ⟨_, (pss_cons (ps_if (PW.pt (pw_or (pt_cmpR op_ge (pv 1) (pe_callB (call_lenLK (K := K)) (by rfl) e.n_len (by decide +kernel) (pa_cons (pv 0) pa_nil)) (nomark _)) (pw_or1 (pt_cmpR op_ne (pe_ix (ix_listK (K := K)) (pv 0) (pv 1) (fun _ _ => rfl)) pe_int (nomark _))))) (pss_one (ps_ret pe_non)) pss_nil)
    (pss_one (ps_ret (pe_call G__law_read_triples (hr.mono (by omega)) (by rfl) e.m__law_read_triples e.k__law_read_triples e.b__law_read_triples .nil pass0 (pa_cons (pv 0) (pa_cons (pe_op op_add (pv 1) pe_int) pa_nil)))))), ?_⟩
    refine enter (st__law_read_packet _ _) ?_
    walk_at "i"
    walk_at "r"
    rw [List.length_map]
    refine ite_dec (fun h1 => ?_) (fun h1 => ?_)
    · walk_at "r"
      exact q _ H Keep.refl (oV_no (by unfold ppk; rw [pbyte_no (by omega)]; rfl))
    have hp : p < ds.length := by omega
    have hat := at_ds0 hp
    have hc : ppk ds p = if ds.getD p 0 = 1 then ptrs ds (p + 1) else none := by unfold ppk; rw [pbyte_yes hp]; rfl
    generalize ds.getD p 0 = b at hat hc
    walk_at "r"
    refine ite_ndec (fun h2 => ?_) (fun h2 => ?_)
    · walk_at "r"
      exact q _ H Keep.refl (oV_no (by rw [hc, if_neg h2]))
    · rw [if_pos h2] at hc
      walk_at "r"
      exact ⟨a, ds, p + 1, rfl, ha, hl, hn, fun v H1 k1 hv => q v H1 k1 (by rw [hc]; exact hv)⟩
end My

end
section
set_option maxHeartbeats 4000000
/-! what is read, as plain data -/
namespace My
open PySem L2 W
def pdM (m : Nat × Nat) : PyData := .tuple [.int (m.1 : Int), .int (m.2 : Int)]
def pdB : Option (Nat × Nat) → PyData
  | none => .none
  | some m => pdM m
def pdD : Dd → PyData
  | .back n => .tuple [.str "back", .int (n : Int)]
  | .chg m rm bh n t => .tuple [.str "change", .str (tx m), .tuple (rm.map pdM), pdB bh, .int (n : Int), .str (tx t)]
def pdT (t : Tri) : PyData := .tuple [.int (t.r : Int), .int (t.p : Int), pdD t.d]
def pdTl (ts : List Tri) : PyData := .list (ts.map pdT)
theorem daL_pd {α : Type} {H : Hp} {Val : α → V → Prop} {f : α → PyData} (hv : ∀ a v, Val a v → Da H (f a) v) : ∀ {us : List V} {l : List α}, Paired (fun v a => Val a v) us l → DaL H (l.map f) us := by
  intro us l h
  induction h with
  | nil => exact DaL.nil
  | cons h _ ih => exact DaL.cons (hv _ _ h) ih
theorem vM.da {H : Hp} {m : Nat × Nat} {v : V} (h : vM H m v) : Da H (pdM m) v := by
  obtain ⟨t, rfl, ht⟩ := h
  exact Da.tup ht (DaL.cons Da.int (DaL.one Da.int))
theorem vB.da {H : Hp} {m : Option (Nat × Nat)} {v : V} (h : vB H m v) : Da H (pdB m) v := by
  cases m with
  | none => cases h; exact Da.non
  | some m => exact vM.da h
theorem vD.da {H : Hp} {d : Dd} {v : V} (h : vD H d v) : Da H (pdD d) v := by
  cases d with
  | back n =>
    obtain ⟨t, rfl, ht⟩ := h
    exact Da.tup ht (DaL.cons Da.str (DaL.one Da.int))
  | chg m rm bh n t =>
    obtain ⟨a, r, us, b, rfl, ha, hr, hM, hB⟩ := h
    exact Da.tup ha (DaL.cons Da.str (DaL.cons Da.str (DaL.cons (Da.tup hr (daL_pd (fun _ _ h => vM.da h) hM)) (DaL.cons (vB.da hB) (DaL.cons Da.int (DaL.one Da.str))))))
theorem vT.da {H : Hp} {t : Tri} {v : V} (h : vT H t v) : Da H (pdT t) v := by
  obtain ⟨a, b, rfl, ha, hb⟩ := h
  exact Da.tup ha (DaL.cons Da.int (DaL.cons Da.int (DaL.one (vD.da hb))))
theorem vTl.da {H : Hp} {ts : List Tri} {v : V} (h : vTl H ts v) : Da H (pdTl ts) v := by
  obtain ⟨a, us, rfl, ha, hv⟩ := h
  exact Da.lst ha (daL_pd (fun _ _ h => vT.da h) hv)
/-! how deep, how wide -/
theorem depL_le {ds : List PyData} {n : Nat} (h : ∀ d ∈ ds, dep d ≤ n) : depL ds ≤ n := by
  induction ds with
  | nil => exact Nat.zero_le _
  | cons a r ih =>
    have h1 := h a (by simp)
    have h2 := ih (fun d hd => h d (by simp [hd]))
    simp only [depL]; omega
theorem widL_le {ds : List PyData} {n : Nat} (h : ∀ d ∈ ds, wid d ≤ n) : widL ds ≤ n := by
  induction ds with
  | nil => exact Nat.zero_le _
  | cons a r ih =>
    have h1 := h a (by simp)
    have h2 := ih (fun d hd => h d (by simp [hd]))
    simp only [widL]; omega
theorem dep_M (m : Nat × Nat) : dep (pdM m) = 1 := rfl
theorem dep_B (m : Option (Nat × Nat)) : dep (pdB m) ≤ 1 := by
  cases m with
  | none => exact Nat.zero_le _
  | some m => exact Nat.le_of_eq (dep_M m)
theorem dep_D (d : Dd) : dep (pdD d) ≤ 3 := by
  cases d with
  | back n => show 0 + 1 ≤ 3; omega
  | chg m rm bh n t =>
    have h1 := depL_le (ds := rm.map pdM) (n := 1) (fun d hd => by obtain ⟨m, _, rfl⟩ := List.mem_map.mp hd; exact Nat.le_of_eq (dep_M m))
    have h2 := dep_B bh
    simp only [pdD, dep, depL]; omega
theorem dep_T (t : Tri) : dep (pdT t) ≤ 4 := by
  have := dep_D t.d
  simp only [pdT, dep, depL]; omega
theorem dep_Tl (ts : List Tri) : dep (pdTl ts) ≤ 5 := by
  have h1 := depL_le (ds := ts.map pdT) (n := 4) (fun d hd => by obtain ⟨m, _, rfl⟩ := List.mem_map.mp hd; exact dep_T m)
  simp only [pdTl, dep]; omega
theorem wid_M (m : Nat × Nat) : wid (pdM m) = 2 := rfl
theorem wid_B (m : Option (Nat × Nat)) : wid (pdB m) ≤ 2 := by
  cases m with
  | none => exact Nat.zero_le _
  | some m => exact Nat.le_of_eq (wid_M m)
def wdD : Dd → Nat
  | .back _ => 0
  | .chg _ rm _ _ _ => rm.length
theorem wid_D (d : Dd) : wid (pdD d) ≤ max 6 (wdD d) := by
  cases d with
  | back n => show max 2 0 ≤ max 6 0; decide
  | chg m rm bh n t =>
    have h1 := widL_le (ds := rm.map pdM) (n := 2) (fun d hd => by obtain ⟨m, _, rfl⟩ := List.mem_map.mp hd; exact Nat.le_of_eq (wid_M m))
    have h2 := wid_B bh
    simp only [pdD, wid, widL, wdD, List.length_map, List.length_cons, List.length_nil]; omega
theorem wid_T (t : Tri) : wid (pdT t) ≤ max 6 (wdD t.d) := by
  have := wid_D t.d
  simp only [pdT, wid, widL, List.length_cons, List.length_nil]; omega
theorem wid_Tl {ts : List Tri} {n : Nat} (h : ∀ t ∈ ts, wdD t.d ≤ n) (h2 : ts.length ≤ n) : wid (pdTl ts) ≤ max 6 n := by
  have h1 := widL_le (ds := ts.map pdT) (n := max 6 n) (fun d hd => by obtain ⟨m, hm, rfl⟩ := List.mem_map.mp hd; have := wid_T m; have := h m hm; omega)
  simp only [pdTl, wid, List.length_map]; omega
/-! what is read is no wider than the bytes -/
theorem pmany_mem {α : Type} (f : Nat → Option (α × Nat)) : ∀ {k p q : Nat} {l : List α}, pmany f k p = some (l, q) → ∀ a ∈ l, ∃ p q, f p = some (a, q)
  | 0, _, _, _, h, a, ha => by cases h; simp at ha
  | k + 1, p, q, l, h, a, ha => by
    have h : (f p).bind (fun z => (pmany f k z.2).map fun y => (z.1 :: y.1, y.2)) = some (l, q) := h
    cases hf : f p with
    | none => rw [hf] at h; cases h
    | some z =>
      rw [hf] at h
      have h : (pmany f k z.2).map (fun y => (z.1 :: y.1, y.2)) = some (l, q) := h
      cases hm : pmany f k z.2 with
      | none => rw [hm] at h; cases h
      | some y =>
        rw [hm] at h
        cases h
        rcases List.mem_cons.mp ha with rfl | ha
        · exact ⟨p, z.2, hf⟩
        · exact pmany_mem f hm a ha
theorem pdd_wd {ds : List Int} {p q : Nat} {d : Dd} (h : pdd ds p = some (d, q)) : wdD d ≤ ds.length := by
  cases d with
  | back n => exact Nat.zero_le _
  | chg m rm bh n t =>
    unfold pdd at h
    simp only [Option.bind_eq_some_iff, Option.map_eq_some_iff] at h
    obtain ⟨z, _, h⟩ := h
    split at h
    · simp at h
    · simp only [Option.bind_eq_some_iff, Option.map_eq_some_iff] at h
      obtain ⟨m', _, rm', hrm, bh', _, n', _, t', _, e⟩ := h
      have e := congrArg Prod.fst e
      simp only [Dd.chg.injEq] at e
      obtain ⟨_, e, _⟩ := e
      show rm.length ≤ _
      rw [← e]
      exact plist_len (q := rm'.2) (l := rm'.1) hrm
theorem ptrs_wd {ds : List Int} {p q : Nat} {ts : List Tri} (h : ptrs ds p = some (ts, q)) : (∀ t ∈ ts, wdD t.d ≤ ds.length) ∧ ts.length ≤ ds.length := by
  refine ⟨fun t ht => ?_, plist_len h⟩
  unfold ptrs plist at h
  simp only [Option.bind_eq_some_iff] at h
  obtain ⟨z, _, hm⟩ := h
  obtain ⟨p', q', hf⟩ := pmany_mem _ hm t ht
  unfold ptr at hf
  simp only [Option.bind_eq_some_iff, Option.map_eq_some_iff] at hf
  obtain ⟨y, _, z, _, d, hd, e⟩ := hf
  have e := congrArg (fun x => x.1.d) e
  simp only at e
  rw [← e]
  exact pdd_wd (q := d.2) hd
end My

end
section
set_option maxHeartbeats 4000000
local macro_rules | `(tactic| walk_at "k") => `(tactic| first
  | assumption
  | exact W.Keep.trans (by assumption) (by assumption)
  | exact And.intro (by grind [W.Keep, W.Kp]) (by grind [W.Keep, W.Kt])
  | grind [W.Keep, W.Kp])
local macro_rules | `(tactic| walk_at "f") => `(tactic| first
  | assumption
  | exact L2.SqL.of (by assumption)
  | exact L2.SqT.of (by assumption)
  | exact L2.SqL.of L2.upd_same
  | exact L2.SqT.of L2.upd_same
  | exact L2.upd_same
  | exact W.carryL (by assumption) (by assumption)
  | exact W.carryL (by assumption) (by walk_at "k")
  | exact W.carryT (by assumption) (by walk_at "k")
  | exact W.carry (by assumption) (by grind [W.Keep, W.Kp])
  | exact L2.SqL.of (W.carry (by assumption) (by grind [W.Keep, W.Kp]))
  | exact L2.SqT.of (W.carry (by assumption) (by grind [W.Keep, W.Kp])))
local macro_rules | `(tactic| walk_at "a") => `(tactic| first
  | assumption
  | rfl)
local macro_rules | `(tactic| walk_at "n") => `(tactic| first
  | assumption
  | exact Nat.zero_le _
  | decide
  | (simp only [List.length_cons, List.length_nil]; decide)
  | omega
  | (simp only [PySem.sizeLine_eq]; omega)
  | (simp only [List.length_map, List.length_append, List.length_cons, List.length_nil, PySem.sizeLine_eq]; omega)
  | (simp only [List.length_map, List.length_append, List.length_cons, List.length_nil, List.length_take, List.length_drop, PySem.sizeLine_eq]; omega)
  | (simp only [List.length_map, List.length_append, List.length_cons, List.length_nil, PySem.sizeLine_eq] at *; omega))
local macro_rules | `(tactic| walk_at "c") => `(tactic| first
  | assumption
  | decide
  | exact And.intro (by decide) (by decide)
  | exact Or.inr (And.intro (by decide) (by decide))
  | exact Or.inl (And.intro (by decide) (by decide))
  | exact And.intro (by decide) (And.intro (by decide) (by decide))
  | exact (show (0 : Int) < _ by decide)
  | exact And.intro (by omega) (by omega)
  | exact Or.inl (And.intro (by omega) (by omega))
  | exact Or.inr (And.intro (by omega) (by omega))
  | exact (show (0 : Int) < _ by omega))
local macro_rules | `(tactic| walk_at "v") => `(tactic| with_reducible first
  | refine W.v0 ?_ | refine W.v1 ?_ | refine W.v2 ?_ | refine W.v3 ?_ | refine W.v4 ?_ | refine W.v5 ?_ | refine W.v6 ?_ | refine W.v7 ?_ | refine W.v8 ?_
  | refine W.v9 ?_ | refine W.v10 ?_ | refine W.v11 ?_ | refine W.v12 ?_ | refine W.v13 ?_ | refine W.v14 ?_ | refine W.v15 ?_ | refine W.v16 ?_ | refine W.v17 ?_
  | refine W.g0 ?_ | refine W.g1 ?_ | refine W.g2 ?_ | refine W.g3 ?_ | refine W.g4 ?_ | refine W.g5 ?_ | refine W.g6 ?_ | refine W.g7 ?_ | refine W.g8 ?_
  | refine W.g9 ?_ | refine W.g10 ?_ | refine W.g11 ?_ | refine W.g12 ?_ | refine W.g13 ?_ | refine W.g14 ?_ | refine W.g15 ?_)
local macro_rules | `(tactic| walk_at "e") => `(tactic| with_reducible first
  | refine W.e_c ?_ | refine W.e_op ?_ | refine W.s_seq ?_ | refine W.s_asg ?_ | refine W.e_CB ?_ | refine W.a_cons ?_ | refine W.a_nil ?_ | refine W.e_call ?_
  | refine W.t_test ?_ | refine W.w_B ?_ | refine W.s_if ?_ | refine W.s_ret ?_ | refine W.s_drop ?_ | refine W.e_un ?_ | refine W.e_fld ?_ | refine W.s_fld ?_
  | refine W.e_meth ?_ | refine W.e_if ?_ | refine W.e_lst ?_ | refine W.e_tup ?_ | refine W.e_sl ?_ | refine W.o_none ?_ | refine W.o_some ?_ | refine W.w_part ?_
  | refine W.e_bm ?_ | refine W.e_bm0 ?_ | refine W.t_B ?_ | refine W.t_and ?_ | refine W.t_or ?_ | refine W.t_not ?_ | refine W.e_andV ?_ | refine W.e_orV ?_ | refine W.e_notV ?_ | refine W.w_BV ?_ | refine W.e_chain ?_
  | refine W.s_aug ?_ | refine W.s_augS ?_ | refine W.s_next ?_ | refine W.s_brk ?_ | refine W.s_cont ?_ | refine W.s_retN ?_ | refine W.s_fa ?_ | refine W.e_make ?_ | refine W.w_make ?_
  | refine W.w_I0 ?_ | refine W.w_U ?_ | refine W.w_aug ?_ | refine W.w_eqI ?_ | refine W.w_neI ?_ | refine W.w_eqS ?_ | refine W.w_neS ?_ | refine W.w_eqB ?_ | refine W.w_neB ?_
  | refine W.w_int ?_ | refine W.w_intB ?_ | refine W.w_min ?_ | refine W.w_max ?_ | refine W.w_isN ?_ | refine W.w_isI ?_ | refine W.w_isS ?_ | refine W.w_isB ?_ | refine W.w_isR ?_
  | refine W.w_notN ?_ | refine W.w_notI ?_ | refine W.w_notR ?_ | refine W.w_notS ?_ | refine W.w_eqNI ?_ | refine W.w_neNI ?_ | refine W.w_eqN ?_ | refine W.w_neN ?_
  | refine W.s_forL ?_ | refine W.s_forT ?_ | refine W.s_forS ?_ | refine W.s_forR1 ?_ | refine W.s_forR2 ?_ | refine W.s_forR3 ?_ | refine W.s_forZ ?_ | refine W.s_forE ?_
  | refine W.e_lcL ?_ | refine W.e_lcT ?_ | refine W.w_ord ?_ | refine W.e_lcR1 ?_ | refine W.e_lcR2 ?_ | refine W.e_lcZ ?_ | refine W.e_lcS ?_ | refine W.t_yes ?_ | refine W.w_gcons ?_ | refine W.w_gnil ?_ | refine W.s_par ?_ | refine W.w_par ?_ | refine W.g_sub ?_ | refine W.e_m1 ?_ | refine W.w_strR ?_ | refine W.w_rAdd ?_ | refine W.w_rSub ?_ | refine W.s_raise ?_ | refine W.s_try ?_ | refine W.e_methS ?_)
local macro_rules | `(tactic| walk_at "w") => `(tactic| first
  | ((with_reducible refine' W.w_I ?wh ?wq); (case wh => walk_at "c"))
  | ((with_reducible refine' W.w_ixL (n := 0) ?wh ?we ?wq); (case wh => walk_at "f"); (case we => walk_at "a"))
  | ((with_reducible refine' W.w_ixT (n := 0) ?wh ?we ?wq); (case wh => walk_at "f"); (case we => walk_at "a"))
  | ((with_reducible refine' W.w_lenL ?wh ?wq); (case wh => walk_at "f"))
  | ((with_reducible refine' W.w_lenT ?wh ?wq); (case wh => walk_at "f"))
  | ((with_reducible refine' W.w_lenS ?wh ?wq); (case wh => walk_at "n"))
  | ((with_reducible refine' W.w_app ?wh ?we ?wq); (case wh => walk_at "f"); (case we => walk_at "n"))
  | ((with_reducible refine' W.w_meth ?wh ?we ?wq); (case wh => walk_at "f"); (case we => first | assumption | rfl))
  | ((with_reducible refine' W.w_ixLTl ?wh ?we ?wq); (case wh => walk_at "f"); (case we => walk_at "a"))
  | ((with_reducible refine' W.w_ixLTt ?wh ?we ?wq); (case wh => walk_at "f"); (case we => walk_at "a"))
  | ((with_reducible refine' W.w_addS ?wh ?wq); (case wh => walk_at "n"))
  | ((with_reducible refine' W.w_set ?wh ?we ?wq); (case wh => walk_at "f"); (case we => walk_at "a"))
  | ((with_reducible refine' W.w_tup ?wh ?we ?wq); (case wh => walk_at "f"); (case we => first | assumption | rfl))
  | ((with_reducible refine' W.w_slS ?wh ?wq); (case wh => walk_at "n"))
  | ((with_reducible refine' W.w_rApp ?wh ?we ?wq); (case wh => walk_at "f"); (case we => walk_at "n"))
  | ((with_reducible refine' W.w_newL ?wh ?wq); (case wh => walk_at "n"))
  | ((with_reducible refine' W.w_newT ?wh ?wq); (case wh => walk_at "n"))
  | ((with_reducible refine' W.w_listL ?wh ?wq); (case wh => walk_at "f"))
  | ((with_reducible refine' W.w_tupL ?wh ?wq); (case wh => walk_at "f"))
  | ((with_reducible refine' W.w_slL ?wh ?wq); (case wh => walk_at "f"))
  | ((with_reducible refine' W.w_cat ?wh ?wf ?we ?wq); (case wh => walk_at "f"); (case wf => walk_at "f"); (case we => walk_at "n"))
  | ((with_reducible refine' W.w_catT ?wh ?wf ?wx ?wy ?we ?wq); (case wh => walk_at "f"); (case wf => walk_at "f"); (case wx => exact List.cons_ne_nil _ _); (case wy => exact List.cons_ne_nil _ _); (case we => walk_at "n"))
  | ((with_reducible refine' W.w_ext ?wh ?wf ?we ?wq); (case wh => walk_at "f"); (case wf => walk_at "f"); (case we => walk_at "n"))
  | ((with_reducible refine' W.w_recv ?wh ?wq); (case wh => walk_at "f"))
  | ((with_reducible refine' W.w_isi1 ?wh ?we ?wq); (case wh => assumption); (case we => decide +kernel))
  | ((with_reducible refine' W.w_isi0 ?wh ?we ?wq); (case wh => assumption); (case we => decide +kernel))
  | ((with_reducible refine' W.w_isiT10 ?wh ?wf ?we ?wg ?wq); (case wh => assumption); (case wf => walk_at "f"); (case we => decide +kernel); (case wg => decide +kernel))
  | ((with_reducible refine' W.w_isiT01 ?wh ?wf ?we ?wg ?wq); (case wh => assumption); (case wf => walk_at "f"); (case we => decide +kernel); (case wg => decide +kernel))
  | ((with_reducible refine' W.w_isiT00 ?wh ?wf ?we ?wg ?wq); (case wh => assumption); (case wf => walk_at "f"); (case we => decide +kernel); (case wg => decide +kernel))
  | ((with_reducible refine' W.w_ins ?wh ?we ?wf ?wq); (case wh => walk_at "f"); (case we => walk_at "n"); (case wf => walk_at "c"))
  | ((with_reducible refine' W.w_unl ?wh ?we ?wq); (case wh => walk_at "f"); (case we => first | assumption | rfl))
  | ((with_reducible refine' W.ite_T ?_))
  | ((with_reducible refine' W.ite_F ?_))
  | ((with_reducible refine' W.ite_nT ?_))
  | ((with_reducible refine' W.ite_nF ?_))
  | ((with_reducible refine' W.ite_self ?_))
  | ((with_reducible refine' W.ite_nself ?_))
  | ((with_reducible refine' W.ite_tf ?_))
  | ((with_reducible refine' W.ite_ft ?_))
  | ((with_reducible refine' W.ite_ntf ?_))
  | ((with_reducible refine' W.ite_nft ?_))
  | ((with_reducible refine' And.intro ?wl ?wq); (case wl => rfl)))
local macro_rules | `(tactic| walk_at "i") => `(tactic| try (dsimp only [L2.cxOf, L2.wipe, List.map, List.set]))
local macro_rules | `(tactic| walk_at "s") => `(tactic| first | walk_at "v" | walk_at "e" | walk_at "w")
local macro_rules | `(tactic| walk_at "r") => `(tactic| repeat walk_at "s")

namespace My
open PySem L2 W
variable {P : Program} {w : World} {K : PySem.W.Frag} {mg : Str → Option Value} {base : Heap} {A : Adr}
theorem ok__law_number (e : Env K mg A) : FnOk P w K mg base CX0 1 A.f__law_number A.d__law_number ["number"] (sp_wn K) := by
  refine e.F__law_number.ok sc__law_number (fun vs H Q E h => ?_) (fun cdv AA outer s H vs Q E hr h => ?_)
  · obtain ⟨n, rfl, _⟩ := h
    rfl
  · obtain ⟨n, rfl, hn, q⟩ := h
    refine ⟨_, (pss_cons (ps_set (i := 1) sc__law_number.nd rfl (Or.inl rfl) (pe_lst pa_nil))
    (pss_cons (ps_while PassesOwn.never (pt_cmpR op_gt (pv 0) pe_int (nomark _)) (pss_cons (ps_expr (pe_bmK (K := K) PySem.F.plainAttrs_list PySem.F.slot_list_append PySem.F.type_list_append mt_append (pv 1) (pa_cons (pe_op op_add (pe_op op_mod (pv 0) pe_int) pe_int) pa_nil)))
    (pss_one (ps_set (i := 0) sc__law_number.nd rfl (Or.inl rfl) (pe_op op_fdiv (pv 0) pe_int)))))
    (pss_one (ps_ret (pe_op op_cat (pv 1) (pe_lst (pa_cons (pv 0) pa_nil))))))), ?_⟩
    refine enter (st__law_number _) ?_
    walk_at "i"
    walk_at "r"
    intro p H1 np k1 hp
    walk_at "r"
    have hlen := wn_len 59 n hn
    refine while_ (fun m σ H' => ∃ (xs : List Int), σ = [some (.int (m : Int)), some (.ref p)] ∧ Keep [] H H' ∧ H' p = some (.lst (xs.map V.int)) ∧ wn n = xs ++ wn m) n ⟨[], rfl, k1, hp, rfl⟩ ?_
    rintro m σ H2 ⟨xs, rfl, k2, h2, hw⟩
    have hxl : xs.length ≤ 60 := by have := congrArg List.length hw; rw [List.length_append] at this; omega
    walk_at "r"
    refine ite_dec (fun hm => ?_) (fun hm => ?_)
    · refine turn ?_
      walk_at "r"
      intro H3 k3 h3
      walk_at "r"
      refine ⟨m / 128, by omega, xs ++ [((m % 128 + 128 : Nat) : Int)], ?_, k2.mut np k3, ?_, ?_⟩
      · rw [show ((m / 128 : Nat) : Int) = (m : Int) / 128 by omega]
      · rw [h3, List.map_append, show ((m % 128 + 128 : Nat) : Int) = (m : Int) % 128 + 128 by omega]; rfl
      · rw [hw, wn_hi (by omega)]; simp
    · walk_at "r"
      intro a H3 na k3 ha
      walk_at "r"
      have hp3 := k3.get h2 (by simp)
      intro c H4 nc k4 hc
      walk_at "r"
      refine q c H4 ?_ (k2.trans (k3.trans k4)) ?_
      · exact (k2.trans k3).free nc (by simp)
      · rw [hc, hw, wn_lo (by omega), List.map_append]; rfl
theorem ok__law_text (e : Env K mg A) : FnOk P w K mg base CX0 2 A.f__law_text A.d__law_text ["text"] (sp_ws K) := by
  have G__law_number := ok__law_number (P := P) (w := w) (base := base) e
  refine e.F__law_text.ok sc__law_text (fun vs H Q E h => ?_) (fun cdv AA outer s H vs Q E hr h => ?_)
  · obtain ⟨s, rfl, _⟩ := h
    rfl
  · obtain ⟨s, rfl, ho, hsz, q⟩ := h
    have hol := ho.2
    have hz : (tx s).length ≤ PySem.sizeLine := by rw [tx_len, PySem.sizeLine_eq]; omega
    refine ⟨_, (pss_cons (ps_set (i := 1) sc__law_text.nd rfl (Or.inl rfl) (pe_call G__law_number (hr.mono (by omega)) (by rfl) e.m__law_number e.k__law_number e.b__law_number .nil pass0 (pa_cons (pe_callB call_lenS (by rfl) e.n_len (by decide +kernel) (pa_cons (pv 0) pa_nil)) pa_nil)))
    (pss_cons (ps_for PassesOwn.never rfl (pi_str (pv 0)) (pg_name (i := 2) sc__law_text.nd rfl (Or.inl rfl)) (pss_one (ps_set (i := 1) sc__law_text.nd rfl (Or.inl rfl) (pe_op op_cat (pv 1) (pe_call G__law_number (hr.mono (by omega)) (by rfl) e.m__law_number e.k__law_number e.b__law_number .nil pass0 (pa_cons (pe_callB call_ordR (by rfl) e.n_ord (by decide +kernel) (pa_cons (pv 2) pa_nil)) pa_nil))))))
    (pss_one (ps_ret (pv 1))))), ?_⟩
    refine enter (st__law_text _) ?_
    walk_at "i"
    walk_at "r"
    rw [tx_len]
    refine ⟨s.length, rfl, lt60' (by omega), fun p H1 np k1 hp => ?_⟩
    walk_at "r"
    refine forS (fun i σ H' => ∃ (D : Addr) (v2 : Option V), σ = [some (.str (tx s)), some (.ref D), v2] ∧ Keep [] H H' ∧ H D = none ∧ H' D = some (.lst ((wn s.length ++ ((s.take i).map wn).flatten).map V.int)))
      ⟨p, _, rfl, k1, np, by simpa using hp⟩ ?_ ?_
    · rintro i c σ H2 hc ⟨D, v2, rfl, k2, nD, hD⟩
      have hc := tx_get hc
      have hcl := okch_lt (ho.1 c (List.mem_of_getElem? hc))
      have e1 : ((s.take (i + 1)).map wn).flatten = ((s.take i).map wn).flatten ++ wn c := by rw [List.take_add_one, hc]; simp
      have hsz2 : (wn s.length ++ ((s.take i).map wn).flatten).length + (wn c).length ≤ 10000000 := by
        have h1 := take_flat_len (s.map wn) (i + 1)
        rw [← List.map_take, e1, List.length_append] at h1
        unfold ws wl at hsz
        rw [List.length_append, List.length_map] at hsz
        rw [List.length_append]; omega
      walk_at "r"
      refine ⟨c, rfl, Nat.lt_trans hcl (by decide), fun p2 H3 np2 k3 hp2 => ?_⟩
      have hD3 := k3.get hD (by simp)
      walk_at "r"
      intro c2 H4 nc k4 hc2
      walk_at "r"
      refine ⟨c2, _, rfl, k2.trans (k3.trans k4), (k2.trans k3).free nc (by simp), ?_⟩
      rw [hc2, e1, ← List.map_append, List.append_assoc]
    · rintro σ H2 ⟨D, v2, rfl, k2, nD, hD⟩
      rw [tx_size, List.take_length] at hD
      walk_at "r"
      exact q D H2 nD k2 (by rw [hD]; unfold ws wl; rw [List.length_map])
theorem ok__law_mark (e : Env K mg A) : FnOk P w K mg base CX0 2 A.f__law_mark A.d__law_mark ["mark"] (sp_wm K) := by
  have G__law_number := ok__law_number (P := P) (w := w) (base := base) e
  refine e.F__law_mark.ok sc__law_mark (fun vs H Q E h => ?_) (fun cdv AA outer s H vs Q E hr h => ?_)
  · obtain ⟨v, m, rfl, _⟩ := h
    rfl
  · obtain ⟨v, m, rfl, ⟨t, rfl, ht⟩, hm, q⟩ := h
    have l1 := wn_le10 hm.1
    have l2 := wn_le10 hm.2
    refine ⟨_, (pss_one (ps_ret (pe_op op_cat (pe_call G__law_number (hr.mono (by omega)) (by rfl) e.m__law_number e.k__law_number e.b__law_number .nil pass0 (pa_cons (pe_ix (ix_tupK (K := K)) (pv 0) pe_int (fun _ _ => rfl)) pa_nil)) (pe_call G__law_number (hr.mono (by omega)) (by rfl) e.m__law_number e.k__law_number e.b__law_number .nil pass0 (pa_cons (pe_ix (ix_tupK (K := K)) (pv 0) pe_int (fun _ _ => rfl)) pa_nil))))), ?_⟩
    refine enter (st__law_mark _) ?_
    walk_at "i"
    walk_at "r"
    refine ⟨m.1, rfl, hm.1.lt, fun a H1 na k1 ha => ?_⟩
    have ht1 := k1.get ht (by simp)
    walk_at "r"
    refine ⟨m.2, rfl, hm.2.lt, fun b H2 nb k2 hb => ?_⟩
    have ha2 := k2.get ha (by simp)
    walk_at "r"
    intro c H3 nc k3 hc
    exact q c H3 ((k1.trans k2).free nc (by simp)) (k1.trans (k2.trans k3)) (by rw [hc, ← List.map_append]; rfl)
theorem ok__law_deed (e : Env K mg A) : FnOk P w K mg base CX0 3 A.f__law_deed A.d__law_deed ["deed"] (sp_wd K) := by
  have G__law_number := ok__law_number (P := P) (w := w) (base := base) e
  have G__law_text := ok__law_text (P := P) (w := w) (base := base) e
  have G__law_mark := ok__law_mark (P := P) (w := w) (base := base) e
  refine e.F__law_deed.ok sc__law_deed (fun vs H Q E h => ?_) (fun cdv AA outer s H vs Q E hr h => ?_)
  · obtain ⟨v, d, rfl, _⟩ := h
    rfl
  · obtain ⟨v, d, rfl, hd, ho, hsz, q⟩ := h
    refine ⟨_, (pss_cons (ps_if (pt_cmpR op_eq (pe_ix (ix_tupK (K := K)) (pv 0) pe_int (fun _ _ => rfl)) pe_str (nomark _)) (pss_one (ps_ret (pe_op op_cat (pe_lst (pa_cons pe_int pa_nil)) (pe_call G__law_number (hr.mono (by omega)) (by rfl) e.m__law_number e.k__law_number e.b__law_number .nil pass0 (pa_cons (pe_ix (ix_tupK (K := K)) (pv 0) pe_int (fun _ _ => rfl)) pa_nil))))) pss_nil)
    (pss_cons (ps_set (i := 1) sc__law_deed.nd rfl (Or.inl rfl) (pe_op op_cat (pe_op op_cat (pe_lst (pa_cons pe_int pa_nil)) (pe_call G__law_text (hr.mono (by omega)) (by rfl) e.m__law_text e.k__law_text e.b__law_text .nil pass0 (pa_cons (pe_ix (ix_tupK (K := K)) (pv 0) pe_int (fun _ _ => rfl)) pa_nil))) (pe_call G__law_number (hr.mono (by omega)) (by rfl) e.m__law_number e.k__law_number e.b__law_number .nil pass0 (pa_cons (pe_callB (call_lenLK (K := K)) (by rfl) e.n_len (by decide +kernel) (pa_cons (pe_ix (ix_tupK (K := K)) (pv 0) pe_int (fun _ _ => rfl)) pa_nil)) pa_nil))))
    (pss_cons (ps_for PassesOwn.never rfl (pi_tupK (K := K) (pe_ix (ix_tupK (K := K)) (pv 0) pe_int (fun _ _ => rfl))) (pg_name (i := 2) sc__law_deed.nd rfl (Or.inl rfl)) (pss_one (ps_set (i := 1) sc__law_deed.nd rfl (Or.inl rfl) (pe_op op_cat (pv 1) (pe_call G__law_mark (hr.mono (by omega)) (by rfl) e.m__law_mark e.k__law_mark e.b__law_mark .nil pass0 (pa_cons (pv 2) pa_nil))))))
    (Evl.pss_cut (ps_set (i := 1) sc__law_deed.nd rfl (Or.inl rfl) (pe_op op_cat (pv 1) (pe_ifExp (pt_cmpR op_isNo (pe_ix (ix_tupK (K := K)) (pv 0) pe_int (fun _ _ => rfl)) pe_non (nomark _)) (pe_lst (pa_cons pe_int pa_nil)) (pe_op op_cat (pe_lst (pa_cons pe_int pa_nil)) (pe_call G__law_mark (hr.mono (by omega)) (by rfl) e.m__law_mark e.k__law_mark e.b__law_mark .nil pass0 (pa_cons (pe_ix (ix_tupK (K := K)) (pv 0) pe_int (fun _ _ => rfl)) pa_nil))))))
    (pss_one (ps_ret (pe_op op_cat (pe_op op_cat (pv 1) (pe_call G__law_number (hr.mono (by omega)) (by rfl) e.m__law_number e.k__law_number e.b__law_number .nil pass0 (pa_cons (pe_ix (ix_tupK (K := K)) (pv 0) pe_int (fun _ _ => rfl)) pa_nil))) (pe_call G__law_text (hr.mono (by omega)) (by rfl) e.m__law_text e.k__law_text e.b__law_text .nil pass0 (pa_cons (pe_ix (ix_tupK (K := K)) (pv 0) pe_int (fun _ _ => rfl)) pa_nil))))))))), ?_⟩
    refine enter (st__law_deed _) ?_
    walk_at "i"
    cases d with
    | back n =>
      obtain ⟨t, rfl, ht⟩ := hd
      have l1 := wn_le10 ho
      walk_at "r"
      intro a H1 na k1 ha
      have ht1 := k1.get ht (by simp)
      walk_at "r"
      refine ⟨n, rfl, okn.lt ho, fun b H2 nb k2 hb => ?_⟩
      have ha2 := k2.get ha (by simp)
      walk_at "r"
      intro c H3 nc k3 hc
      walk_at "r"
      exact q c H3 ((k1.trans k2).free nc (by simp)) (k1.trans (k2.trans k3)) (by rw [hc]; rfl)
    | chg m rm bh n t =>
      obtain ⟨v, r, us, b, rfl, hv, hr0, hM, hB⟩ := hd
      obtain ⟨o1, o2, o3, o4, o5, o6⟩ := ho
      have hz : (ws m).length + (wl (rm.map wm)).length + (wbh bh).length + (wn n).length + (ws t).length + 1 ≤ 10000000 := by
        have e1 : (wd (.chg m rm bh n t)).length = (ws m).length + (wl (rm.map wm)).length + (wbh bh).length + (wn n).length + (ws t).length + 1 := by simp [wd]; omega
        omega
      have hwl : (wl (rm.map wm)).length = (wn rm.length).length + (rm.map wm).flatten.length := by unfold wl; rw [List.length_append, List.length_map]
      have husl : us.length = rm.length := vMs.len hM
      walk_at "r"
      refine ite_dec (fun z => absurd z ne_back) (fun _ => ?_)
      walk_at "r"
      intro z H1 nz k1 hz0
      have hv1 := k1.get hv (by simp)
      walk_at "r"
      refine ⟨m, rfl, o1, by omega, fun a1 H2 n1 k2 ha1 => ?_⟩
      have hz2 := k2.get hz0 (by simp)
      have hv2 := k2.get hv1 (by simp)
      walk_at "r"
      intro a2 H3 n2 k3 ha2
      have k13 := k1.trans (k2.trans k3)
      have hr3 := k13.get hr0 (by simp)
      have hM3 := vMs.keep hM k13
      have hB3 := vB.keep hB k13
      have hv3 := k13.get hv (by simp)
      clear k1 k2 k3 hz0 hz2 ha1 hr0 hM hB hv1 hv2
      walk_at "r"
      refine ⟨rm.length, by rw [husl]; rfl, lt60' (by omega), fun a3 H4 n3 k4 ha3 => ?_⟩
      have ha24 := k4.get ha2 (by simp)
      walk_at "r"
      intro a4 H5 n4 k5 ha4
      have k45 := k4.trans k5
      have hr5 := k45.get hr3 (by simp)
      have hM5 := vMs.keep hM3 k45
      have hB5 := vB.keep hB3 k45
      have hv5 := k45.get hv3 (by simp)
      have k15 := k13.trans k45
      have na4 : H a4 = none := (k13.trans k4).free n4 (by simp)
      have ha5 : H5 a4 = some (.lst (((0 : Int) :: (ws m ++ wn rm.length)).map V.int)) := by rw [ha4]; simp
      clear ha2 ha3 ha24 hr3 hM3 hB3 hv3 k13 k4 k5 k45 ha4
      walk_at "r"
      refine forT (SqT.of hr5) (fun i σ H' => ∃ (D : Addr) (v2 : Option V), σ = [some (.ref v), some (.ref D), v2] ∧ Keep [] H5 H' ∧ H D = none ∧ H' D = some (.lst (((0 : Int) :: (ws m ++ wn rm.length ++ ((rm.take i).map wm).flatten)).map V.int)))
        ⟨a4, _, rfl, Keep.refl, na4, by simpa using ha5⟩ (fun i σ H' _ h => ?_) ?_ ?_
      · obtain ⟨_, _, _, k, _⟩ := h
        exact SqT.of (k.get hr5 (by simp))
      · rintro i x σ H6 hx ⟨D, v2, rfl, k6, nD, hD⟩
        obtain ⟨mm, hmm, hvm⟩ := pd_get hM5 hx
        have hok := o2 mm (List.mem_of_getElem? hmm)
        have e1 : ((rm.take (i + 1)).map wm).flatten = ((rm.take i).map wm).flatten ++ wm mm := by rw [List.take_add_one, hmm]; simp
        have hsz2 : ((0 : Int) :: (ws m ++ wn rm.length ++ ((rm.take i).map wm).flatten)).length + (wm mm).length ≤ 10000000 := by
          have h1 := take_flat_len (rm.map wm) (i + 1)
          rw [← List.map_take, e1, List.length_append] at h1
          rw [List.length_cons, List.length_append, List.length_append]; omega
        walk_at "r"
        refine ⟨x, mm, rfl, vM.keep hvm k6, hok, fun p2 H7 np2 k7 hp2 => ?_⟩
        have hD7 := k7.get hD (by simp)
        walk_at "r"
        intro c2 H8 nc k8 hc2
        walk_at "r"
        refine ⟨c2, _, rfl, k6.trans (k7.trans k8), (k15.trans (k6.trans k7)).free nc (by simp), ?_⟩
        rw [hc2, e1, ← List.map_append]; simp
      · rintro σ H6 ⟨D, v2, rfl, k6, nD, hD⟩
        rw [husl, List.take_length] at hD
        have k16 := k15.trans k6
        have hv6 := k6.get hv5 (by simp)
        have hB6 := vB.keep hB5 k6
        have hD6 : H6 D = some (.lst (((0 : Int) :: (ws m ++ wl (rm.map wm))).map V.int)) := by rw [hD]; unfold wl; rw [List.length_map, List.append_assoc]
        clear hD hr5 hM5 hv5 hB5 k15 k6 ha5
        refine s_cut (fun σ' H' => ∃ (D : Addr) (v2 : Option V), σ' = [some (.ref v), some (.ref D), v2] ∧ Keep [] H6 H' ∧ H D = none ∧ H' D = some (.lst (((0 : Int) :: (ws m ++ wl (rm.map wm) ++ wbh bh)).map V.int))) ?_ ?_
        · walk_at "r"
          cases bh with
          | none =>
            cases hB6
            walk_at "r"
            intro l H7 nl k7 hl
            have hD7 := k7.get hD6 (by simp)
            walk_at "r"
            intro c H8 nc k8 h8
            walk_at "r"
            exact ⟨c, _, rfl, k7.trans k8, (k16.trans k7).free nc (by simp), by rw [h8]; simp [wbh]⟩
          | some mk =>
            have hB6 : vM H6 mk b := hB6
            have hB7 := hB6
            obtain ⟨tb, rfl, htb⟩ := hB7
            have hmk := o4 mk rfl
            have hml := wm_le hmk
            walk_at "r"
            intro l H7 nl k7 hl
            have hv7 := k7.get hv6 (by simp)
            walk_at "r"
            refine ⟨.ref tb, mk, rfl, vM.keep hB6 k7, hmk, fun p H8 np k8 hp => ?_⟩
            have hl8 := k8.get hl (by simp)
            walk_at "r"
            intro c H9 nc k9 hc
            have k79 := k7.trans (k8.trans k9)
            have ha9 := k79.get hD6 (by simp)
            clear hl8 hl hp
            walk_at "r"
            intro c2 H10 nc2 k10 h10
            walk_at "r"
            exact ⟨c2, _, rfl, k79.trans k10, (k16.trans k79).free nc2 (by simp), by rw [h10]; simp [wbh]⟩
        · rintro σ' H7 ⟨D2, v2, rfl, k7, nD2, h7⟩
          have l5 := wn_le10 o5
          have hv7 := k7.get hv6 (by simp)
          walk_at "r"
          refine ⟨n, rfl, o5.lt, fun p H8 np k8 hp => ?_⟩
          have h8 := k8.get h7 (by simp)
          have hv8 := k8.get hv7 (by simp)
          walk_at "r"
          intro c H9 nc k9 hc
          have hv9 := k9.get hv8 (by simp)
          walk_at "r"
          refine ⟨t, rfl, o6, by omega, fun p2 H10 np2 k10 hp2 => ?_⟩
          have hc10 := k10.get hc (by simp)
          clear h8 h7 hp hc
          walk_at "r"
          intro c2 H11 nc2 k11 hc2
          have k := k16.trans (k7.trans (k8.trans (k9.trans k10)))
          exact q c2 H11 (k.free nc2 (by simp)) (k.trans k11) (by rw [hc2]; simp [wd])
theorem ok__law_triples (e : Env K mg A) : FnOk P w K mg base CX0 4 A.f__law_triples A.d__law_triples ["triples"] (sp_wts K wts) := by
  have G__law_number := ok__law_number (P := P) (w := w) (base := base) e
  have G__law_deed := ok__law_deed (P := P) (w := w) (base := base) e
  refine e.F__law_triples.ok sc__law_triples (fun vs H Q E h => ?_) (fun cdv AA outer s H vs Q E hr h => ?_)
  · obtain ⟨a, us, ts, rfl, _⟩ := h
    rfl
  · obtain ⟨a, us, ts, rfl, ha, hT, ho, htl, hsz, q⟩ := h
    have hul : us.length = ts.length := Paired.length hT
    refine ⟨_, (pss_cons (ps_set (i := 1) sc__law_triples.nd rfl (Or.inl rfl) (pe_call G__law_number (hr.mono (by omega)) (by rfl) e.m__law_number e.k__law_number e.b__law_number .nil pass0 (pa_cons (pe_callB (call_lenLK (K := K)) (by rfl) e.n_len (by decide +kernel) (pa_cons (pv 0) pa_nil)) pa_nil)))
    (pss_cons (ps_for PassesOwn.never rfl (pi_listK (K := K) (pv 0)) (pg_tupK (K := K) (n := 3) rfl (pgs_cons (pg_name (i := 2) sc__law_triples.nd rfl (Or.inl rfl)) (pgs_cons (pg_name (i := 3) sc__law_triples.nd rfl (Or.inl rfl)) (pgs_cons (pg_name (i := 4) sc__law_triples.nd rfl (Or.inl rfl)) pgs_nil)))) (pss_one (ps_set (i := 1) sc__law_triples.nd rfl (Or.inl rfl) (pe_op op_cat (pe_op op_cat (pe_op op_cat (pv 1) (pe_call G__law_number (hr.mono (by omega)) (by rfl) e.m__law_number e.k__law_number e.b__law_number .nil pass0 (pa_cons (pv 2) pa_nil))) (pe_call G__law_number (hr.mono (by omega)) (by rfl) e.m__law_number e.k__law_number e.b__law_number .nil pass0 (pa_cons (pv 3) pa_nil))) (pe_call G__law_deed (hr.mono (by omega)) (by rfl) e.m__law_deed e.k__law_deed e.b__law_deed .nil pass0 (pa_cons (pv 4) pa_nil))))))
    (pss_one (ps_ret (pv 1))))), ?_⟩
    refine enter (st__law_triples _) ?_
    walk_at "i"
    walk_at "r"
    refine ⟨ts.length, by rw [hul]; rfl, lt60' (by omega), fun p H1 np k1 hp => ?_⟩
    walk_at "r"
    refine forL (SqL.of (k1.get ha (by simp))) (fun i σ H' => ∃ D v2 v3 v4, σ = [some (.ref a), some (.ref D), v2, v3, v4] ∧ Keep [] H H' ∧ H D = none ∧ H' D = some (.lst ((wn ts.length ++ ((ts.take i).map wt).flatten).map V.int)))
      ⟨p, _, _, _, rfl, k1, np, by simpa using hp⟩ (fun i σ H' _ h => ?_) ?_ ?_
    · obtain ⟨_, _, _, _, _, k, _⟩ := h
      exact SqL.of (k.get ha (by simp))
    · rintro i x σ H2 hx ⟨D, v2, v3, v4, rfl, k2, nD, hD⟩
      obtain ⟨tt, htt, b, bv, rfl, hb, hdd⟩ := pd_get hT hx
      have hb2 := k2.get hb (by simp)
      have hdd2 := vD.keep hdd k2
      have hmem := List.mem_of_getElem? htt
      obtain ⟨o1, o2, o3⟩ := ho tt hmem
      have e1 : ((ts.take (i + 1)).map wt).flatten = ((ts.take i).map wt).flatten ++ wt tt := by rw [List.take_add_one, htt]; simp
      have h3 : (wt tt).length = (wn tt.r).length + (wn tt.p).length + (wd tt.d).length := by simp [wt]; omega
      have hsz2 : (wn ts.length ++ ((ts.take i).map wt).flatten).length + ((wn tt.r).length + (wn tt.p).length + (wd tt.d).length) ≤ 10000000 := by
        have h1 := take_flat_len (ts.map wt) (i + 1)
        rw [← List.map_take, e1, List.length_append] at h1
        unfold wts wl at hsz
        rw [List.length_append, List.length_map] at hsz
        rw [List.length_append]; omega
      walk_at "r"
      refine ⟨tt.r, rfl, o1.lt, fun p1 H3 n1 k3 h1 => ?_⟩
      have hD3 := k3.get hD (by simp)
      walk_at "r"
      intro c1 H4 nc1 k4 hc1
      have hdd4 := vD.keep hdd2 (k3.trans k4)
      clear hD3 h1 hb2 hD
      walk_at "r"
      refine ⟨tt.p, rfl, o2.lt, fun p2 H5 n2 k5 h2 => ?_⟩
      have hc15 := k5.get hc1 (by simp)
      walk_at "r"
      intro c2 H6 nc2 k6 hc2
      clear hc1 hc15 h2
      walk_at "r"
      refine ⟨bv, tt.d, rfl, vD.keep hdd4 (k5.trans k6), o3, by omega, fun p3 H7 n3 k7 h3' => ?_⟩
      have hc27 := k7.get hc2 (by simp)
      walk_at "r"
      intro c3 H8 nc3 k8 hc3
      walk_at "r"
      have k := k2.trans (k3.trans (k4.trans (k5.trans (k6.trans k7))))
      exact ⟨c3, _, _, _, rfl, k.trans k8, k.free nc3 (by simp), by rw [hc3, e1]; simp [wt]⟩
    · rintro σ H2 ⟨D, v2, v3, v4, rfl, k2, nD, hD⟩
      rw [hul, List.take_length] at hD
      walk_at "r"
      exact q D H2 nD k2 (by rw [hD]; unfold wts wl; rw [List.length_map])
end My

end
section
set_option maxHeartbeats 4000000
local macro_rules | `(tactic| walk_at "k") => `(tactic| first
  | assumption
  | exact W.Keep.trans (by assumption) (by assumption)
  | exact And.intro (by grind [W.Keep, W.Kp]) (by grind [W.Keep, W.Kt])
  | grind [W.Keep, W.Kp])
local macro_rules | `(tactic| walk_at "f") => `(tactic| first
  | assumption
  | exact L2.SqL.of (by assumption)
  | exact L2.SqT.of (by assumption)
  | exact L2.SqL.of L2.upd_same
  | exact L2.SqT.of L2.upd_same
  | exact L2.upd_same
  | exact W.carryL (by assumption) (by assumption)
  | exact W.carryL (by assumption) (by walk_at "k")
  | exact W.carryT (by assumption) (by walk_at "k")
  | exact W.carry (by assumption) (by grind [W.Keep, W.Kp])
  | exact L2.SqL.of (W.carry (by assumption) (by grind [W.Keep, W.Kp]))
  | exact L2.SqT.of (W.carry (by assumption) (by grind [W.Keep, W.Kp])))
local macro_rules | `(tactic| walk_at "a") => `(tactic| first
  | assumption
  | rfl)
local macro_rules | `(tactic| walk_at "n") => `(tactic| first
  | assumption
  | exact Nat.zero_le _
  | decide
  | (simp only [List.length_cons, List.length_nil]; decide)
  | omega
  | (simp only [PySem.sizeLine_eq]; omega)
  | (simp only [List.length_map, List.length_append, List.length_cons, List.length_nil, PySem.sizeLine_eq]; omega)
  | (simp only [List.length_map, List.length_append, List.length_cons, List.length_nil, List.length_take, List.length_drop, PySem.sizeLine_eq]; omega)
  | (simp only [List.length_map, List.length_append, List.length_cons, List.length_nil, PySem.sizeLine_eq] at *; omega))
local macro_rules | `(tactic| walk_at "c") => `(tactic| first
  | assumption
  | decide
  | exact And.intro (by decide) (by decide)
  | exact Or.inr (And.intro (by decide) (by decide))
  | exact Or.inl (And.intro (by decide) (by decide))
  | exact And.intro (by decide) (And.intro (by decide) (by decide))
  | exact (show (0 : Int) < _ by decide)
  | exact And.intro (by omega) (by omega)
  | exact Or.inl (And.intro (by omega) (by omega))
  | exact Or.inr (And.intro (by omega) (by omega))
  | exact (show (0 : Int) < _ by omega))
local macro_rules | `(tactic| walk_at "v") => `(tactic| with_reducible first
  | refine W.v0 ?_ | refine W.v1 ?_ | refine W.v2 ?_ | refine W.v3 ?_ | refine W.v4 ?_ | refine W.v5 ?_ | refine W.v6 ?_ | refine W.v7 ?_ | refine W.v8 ?_
  | refine W.v9 ?_ | refine W.v10 ?_ | refine W.v11 ?_ | refine W.v12 ?_ | refine W.v13 ?_ | refine W.v14 ?_ | refine W.v15 ?_ | refine W.v16 ?_ | refine W.v17 ?_
  | refine W.g0 ?_ | refine W.g1 ?_ | refine W.g2 ?_ | refine W.g3 ?_ | refine W.g4 ?_ | refine W.g5 ?_ | refine W.g6 ?_ | refine W.g7 ?_ | refine W.g8 ?_
  | refine W.g9 ?_ | refine W.g10 ?_ | refine W.g11 ?_ | refine W.g12 ?_ | refine W.g13 ?_ | refine W.g14 ?_ | refine W.g15 ?_)
local macro_rules | `(tactic| walk_at "e") => `(tactic| with_reducible first
  | refine W.e_c ?_ | refine W.e_op ?_ | refine W.s_seq ?_ | refine W.s_asg ?_ | refine W.e_CB ?_ | refine W.a_cons ?_ | refine W.a_nil ?_ | refine W.e_call ?_
  | refine W.t_test ?_ | refine W.w_B ?_ | refine W.s_if ?_ | refine W.s_ret ?_ | refine W.s_drop ?_ | refine W.e_un ?_ | refine W.e_fld ?_ | refine W.s_fld ?_
  | refine W.e_meth ?_ | refine W.e_if ?_ | refine W.e_lst ?_ | refine W.e_tup ?_ | refine W.e_sl ?_ | refine W.o_none ?_ | refine W.o_some ?_ | refine W.w_part ?_
  | refine W.e_bm ?_ | refine W.e_bm0 ?_ | refine W.t_B ?_ | refine W.t_and ?_ | refine W.t_or ?_ | refine W.t_not ?_ | refine W.e_andV ?_ | refine W.e_orV ?_ | refine W.e_notV ?_ | refine W.w_BV ?_ | refine W.e_chain ?_
  | refine W.s_aug ?_ | refine W.s_augS ?_ | refine W.s_next ?_ | refine W.s_brk ?_ | refine W.s_cont ?_ | refine W.s_retN ?_ | refine W.s_fa ?_ | refine W.e_make ?_ | refine W.w_make ?_
  | refine W.w_I0 ?_ | refine W.w_U ?_ | refine W.w_aug ?_ | refine W.w_eqI ?_ | refine W.w_neI ?_ | refine W.w_eqS ?_ | refine W.w_neS ?_ | refine W.w_eqB ?_ | refine W.w_neB ?_
  | refine W.w_int ?_ | refine W.w_intB ?_ | refine W.w_min ?_ | refine W.w_max ?_ | refine W.w_isN ?_ | refine W.w_isI ?_ | refine W.w_isS ?_ | refine W.w_isB ?_ | refine W.w_isR ?_
  | refine W.w_notN ?_ | refine W.w_notI ?_ | refine W.w_notR ?_ | refine W.w_notS ?_ | refine W.w_eqNI ?_ | refine W.w_neNI ?_ | refine W.w_eqN ?_ | refine W.w_neN ?_
  | refine W.s_forL ?_ | refine W.s_forT ?_ | refine W.s_forS ?_ | refine W.s_forR1 ?_ | refine W.s_forR2 ?_ | refine W.s_forR3 ?_ | refine W.s_forZ ?_ | refine W.s_forE ?_
  | refine W.e_lcL ?_ | refine W.e_lcT ?_ | refine W.w_ord ?_ | refine W.e_lcR1 ?_ | refine W.e_lcR2 ?_ | refine W.e_lcZ ?_ | refine W.e_lcS ?_ | refine W.t_yes ?_ | refine W.w_gcons ?_ | refine W.w_gnil ?_ | refine W.s_par ?_ | refine W.w_par ?_ | refine W.g_sub ?_ | refine W.e_m1 ?_ | refine W.w_strR ?_ | refine W.w_rAdd ?_ | refine W.w_rSub ?_ | refine W.s_raise ?_ | refine W.s_try ?_ | refine W.e_methS ?_)
local macro_rules | `(tactic| walk_at "w") => `(tactic| first
  | ((with_reducible refine' W.w_I ?wh ?wq); (case wh => walk_at "c"))
  | ((with_reducible refine' W.w_ixL (n := 0) ?wh ?we ?wq); (case wh => walk_at "f"); (case we => walk_at "a"))
  | ((with_reducible refine' W.w_ixT (n := 0) ?wh ?we ?wq); (case wh => walk_at "f"); (case we => walk_at "a"))
  | ((with_reducible refine' W.w_lenL ?wh ?wq); (case wh => walk_at "f"))
  | ((with_reducible refine' W.w_lenT ?wh ?wq); (case wh => walk_at "f"))
  | ((with_reducible refine' W.w_lenS ?wh ?wq); (case wh => walk_at "n"))
  | ((with_reducible refine' W.w_app ?wh ?we ?wq); (case wh => walk_at "f"); (case we => walk_at "n"))
  | ((with_reducible refine' W.w_meth ?wh ?we ?wq); (case wh => walk_at "f"); (case we => first | assumption | rfl))
  | ((with_reducible refine' W.w_ixLTl ?wh ?we ?wq); (case wh => walk_at "f"); (case we => walk_at "a"))
  | ((with_reducible refine' W.w_ixLTt ?wh ?we ?wq); (case wh => walk_at "f"); (case we => walk_at "a"))
  | ((with_reducible refine' W.w_addS ?wh ?wq); (case wh => walk_at "n"))
  | ((with_reducible refine' W.w_set ?wh ?we ?wq); (case wh => walk_at "f"); (case we => walk_at "a"))
  | ((with_reducible refine' W.w_tup ?wh ?we ?wq); (case wh => walk_at "f"); (case we => first | assumption | rfl))
  | ((with_reducible refine' W.w_slS ?wh ?wq); (case wh => walk_at "n"))
  | ((with_reducible refine' W.w_rApp ?wh ?we ?wq); (case wh => walk_at "f"); (case we => walk_at "n"))
  | ((with_reducible refine' W.w_newL ?wh ?wq); (case wh => walk_at "n"))
  | ((with_reducible refine' W.w_newT ?wh ?wq); (case wh => walk_at "n"))
  | ((with_reducible refine' W.w_listL ?wh ?wq); (case wh => walk_at "f"))
  | ((with_reducible refine' W.w_tupL ?wh ?wq); (case wh => walk_at "f"))
  | ((with_reducible refine' W.w_slL ?wh ?wq); (case wh => walk_at "f"))
  | ((with_reducible refine' W.w_cat ?wh ?wf ?we ?wq); (case wh => walk_at "f"); (case wf => walk_at "f"); (case we => walk_at "n"))
  | ((with_reducible refine' W.w_catT ?wh ?wf ?wx ?wy ?we ?wq); (case wh => walk_at "f"); (case wf => walk_at "f"); (case wx => exact List.cons_ne_nil _ _); (case wy => exact List.cons_ne_nil _ _); (case we => walk_at "n"))
  | ((with_reducible refine' W.w_ext ?wh ?wf ?we ?wq); (case wh => walk_at "f"); (case wf => walk_at "f"); (case we => walk_at "n"))
  | ((with_reducible refine' W.w_recv ?wh ?wq); (case wh => walk_at "f"))
  | ((with_reducible refine' W.w_isi1 ?wh ?we ?wq); (case wh => assumption); (case we => decide +kernel))
  | ((with_reducible refine' W.w_isi0 ?wh ?we ?wq); (case wh => assumption); (case we => decide +kernel))
  | ((with_reducible refine' W.w_isiT10 ?wh ?wf ?we ?wg ?wq); (case wh => assumption); (case wf => walk_at "f"); (case we => decide +kernel); (case wg => decide +kernel))
  | ((with_reducible refine' W.w_isiT01 ?wh ?wf ?we ?wg ?wq); (case wh => assumption); (case wf => walk_at "f"); (case we => decide +kernel); (case wg => decide +kernel))
  | ((with_reducible refine' W.w_isiT00 ?wh ?wf ?we ?wg ?wq); (case wh => assumption); (case wf => walk_at "f"); (case we => decide +kernel); (case wg => decide +kernel))
  | ((with_reducible refine' W.w_ins ?wh ?we ?wf ?wq); (case wh => walk_at "f"); (case we => walk_at "n"); (case wf => walk_at "c"))
  | ((with_reducible refine' W.w_unl ?wh ?we ?wq); (case wh => walk_at "f"); (case we => first | assumption | rfl))
  | ((with_reducible refine' W.ite_T ?_))
  | ((with_reducible refine' W.ite_F ?_))
  | ((with_reducible refine' W.ite_nT ?_))
  | ((with_reducible refine' W.ite_nF ?_))
  | ((with_reducible refine' W.ite_self ?_))
  | ((with_reducible refine' W.ite_nself ?_))
  | ((with_reducible refine' W.ite_tf ?_))
  | ((with_reducible refine' W.ite_ft ?_))
  | ((with_reducible refine' W.ite_ntf ?_))
  | ((with_reducible refine' W.ite_nft ?_))
  | ((with_reducible refine' And.intro ?wl ?wq); (case wl => rfl)))
local macro_rules | `(tactic| walk_at "i") => `(tactic| try (dsimp only [L2.cxOf, L2.wipe, List.map, List.set]))
local macro_rules | `(tactic| walk_at "s") => `(tactic| first | walk_at "v" | walk_at "e" | walk_at "w")
local macro_rules | `(tactic| walk_at "r") => `(tactic| repeat walk_at "s")

namespace My
open PySem L2 W
variable {P : Program} {w : World} {K : PySem.W.Frag} {mg : Str → Option Value} {base : Heap} {A : Adr}
/-! draws: only their range matters. The state: its script at c, itself at a -/
def Drw (a c : Addr) (ns : List Int) (H : Hp) : Prop := ∃ i b g : Int, 0 ≤ i ∧ H a = some (.lst [.ref c, .int i, .int b, .int g]) ∧ H c = some (.lst (ns.map V.int))
theorem Drw.keep {S : List Addr} {H H' : Hp} {a d : Addr} {ds : List Int} (h : Drw a d ds H) (k : Keep S H H') (n0 : a ∉ S) (n1 : d ∉ S) : Drw a d ds H' := by
  obtain ⟨i, b, g, hi, h1, h2⟩ := h
  exact ⟨i, b, g, hi, k.get h1 n0, k.get h2 n1⟩
theorem Drw.more {H H' : Hp} {a d : Addr} {ds : List Int} (h : Drw a d ds H) (k : Keep [] H H') : Drw a d ds H' := h.keep k (by simp) (by simp)
theorem Drw.fre {H : Hp} {a d b : Addr} {ds : List Int} (h : Drw a d ds H) (e : H b = none) : b ≠ a ∧ b ≠ d := by
  obtain ⟨i, _, _, hi, h1, h2⟩ := h
  exact ⟨Ne.symm (ne_of_none h1 e), Ne.symm (ne_of_none h2 e)⟩
theorem Drw.ne {H : Hp} {a d : Addr} {ds : List Int} (h : Drw a d ds H) : d ≠ a := by
  obtain ⟨i, _, _, hi, h1, h2⟩ := h
  intro z
  subst z
  rw [h1] at h2
  cases ds with
  | nil => cases h2
  | cons x r => cases h2
theorem Drw.mut {H H' : Hp} {a d b : Addr} {ds : List Int} (h : Drw a d ds H) (k : Keep [b] H H') (n : b ≠ a ∧ b ≠ d) : Drw a d ds H' := h.keep k (by simp [Ne.symm n.1]) (by simp [Ne.symm n.2])
def sp_next (K : PySem.W.Frag) : Sp := fun vs H Q _ => ∃ (a c : Addr) (ns : List Int) (m : Int), vs = [.ref a, .int m] ∧ Drw a c ns H ∧ 0 < m ∧ m < 2 ^ 100 ∧
  ∀ v H', 0 ≤ v → v < m → Keep [a] H H' → Drw a c ns H' → Q (.int v) H'
theorem at_int {ds : List Int} {i : Int} (h : 0 ≤ i) (l : i < ds.length) : ∃ v, atI (ds.map V.int) i = some (.int v) := by
  obtain ⟨n, rfl⟩ := Int.eq_ofNat_of_zero_le h
  refine ⟨ds.getD n 0, atI_nat ?_⟩
  rw [List.getElem?_map, List.getD_eq_getElem?_getD, List.getElem?_eq_getElem (by omega)]; rfl
theorem cdw {i m : Int} (h : 0 < m) (h2 : m < 2 ^ 100) : CDivW i m := wide_div (b := 100) h (by omega) (by decide) (by decide)
theorem ok__law_next (e : Env K mg A) : FnOk P w K mg base CX0 1 A.f__law_next A.d__law_next ["state", "limit"] (sp_next K) := by
  refine e.F__law_next.ok sc__law_next (fun vs H Q E h => ?_) (fun cdv AA outer s H vs Q E hr h => ?_)
  · obtain ⟨a, d, ds, m, rfl, _⟩ := h
    rfl
  · obtain ⟨a, c, ns, m, rfl, hD, hm, hm2, q⟩ := h
    have had := hD.ne
    obtain ⟨i, b, g, hi, ha, hc⟩ := hD
    refine ⟨_, (Evl.pss_cut (ps_if (PW.pt (pw_and (pt_cmpR op_eq (pe_ix (ix_listK (K := K)) (pv 0) pe_int (fun _ _ => rfl)) pe_int (nomark _)) (pw_and1 (pt_cmpR op_lt (pe_ix (ix_listK (K := K)) (pv 0) pe_int (fun _ _ => rfl)) (pe_callB (call_lenLK (K := K)) (by rfl) e.n_len (by decide +kernel) (pa_cons (pe_ix (ix_listK (K := K)) (pv 0) pe_int (fun _ _ => rfl)) pa_nil)) (nomark _))))) (pss_cons (ps_set (i := 2) sc__law_next.nd rfl (Or.inl rfl) (pe_ix (ix_listK (K := K)) (pe_ix (ix_listK (K := K)) (pv 0) pe_int (fun _ _ => rfl)) (pe_ix (ix_listK (K := K)) (pv 0) pe_int (fun _ _ => rfl)) (fun _ _ => rfl)))
    (pss_cons (ps_augS (pv 0) pe_int (get_listK (K := K)) pe_int ip_add set_list)
    (pss_one (ps_if (pt_cmpR op_ge (pv 2) (pe_op op_pow pe_int pe_int) (nomark _)) (pss_one (ps_asg (pv 2) (pg_sub (pv 0) pe_int set_list))) (pss_one (ps_asg (pe_op op_mod (pe_callTy call_int (by rfl) e.n_int (by decide +kernel) (pa_cons (pe_op op_add (pe_op op_add (pe_op op_mul (pe_ix (ix_listK (K := K)) (pv 0) pe_int (fun _ _ => rfl)) pe_int) (pe_op op_mod (pe_callTy call_int (by rfl) e.n_int (by decide +kernel) (pa_cons (pv 2) pa_nil)) pe_int)) pe_int) pa_nil)) pe_int) (pg_sub (pv 0) pe_int set_list))))))) pss_nil)
    (pss_cons (ps_if (pt_cmpR op_gt (pe_ix (ix_listK (K := K)) (pv 0) pe_int (fun _ _ => rfl)) pe_int (nomark _)) (pss_cons (ps_set (i := 3) sc__law_next.nd rfl (Or.inl rfl) (pe_op op_mod (pe_callTy call_int (by rfl) e.n_int (by decide +kernel) (pa_cons (pe_ix (ix_listK (K := K)) (pv 0) pe_int (fun _ _ => rfl)) pa_nil)) (pv 1)))
    (pss_cons (ps_asg (pe_op op_fdivW (pe_ix (ix_listK (K := K)) (pv 0) pe_int (fun _ _ => rfl)) (pv 1)) (pg_sub (pv 0) pe_int set_list))
    (pss_one (ps_ret (pv 3))))) pss_nil)
    (pss_cons (ps_asg (pe_op op_mod (pe_callTy call_int (by rfl) e.n_int (by decide +kernel) (pa_cons (pe_op op_add (pe_op op_mul (pe_ix (ix_listK (K := K)) (pv 0) pe_int (fun _ _ => rfl)) pe_int) pe_int) pa_nil)) pe_int) (pg_sub (pv 0) pe_int set_list))
    (pss_one (ps_ret (pe_op op_mod (pe_callTy call_int (by rfl) e.n_int (by decide +kernel) (pa_cons (pe_op op_fdiv (pe_ix (ix_listK (K := K)) (pv 0) pe_int (fun _ _ => rfl)) pe_int) pa_nil)) (pv 1))))))), ?_⟩
    refine enter (st__law_next _ _) ?_
    walk_at "i"
    refine s_cut (fun σ' H1 => ∃ v2 v3, σ' = [some (.ref a), some (.int m), v2, v3] ∧ Keep [a] H H1 ∧ Drw a c ns H1) ?_ ?_
    · walk_at "r"
      have skip : ∀ (v2 v3 : Option V), ∃ w2 w3, [some (V.ref a), some (V.int m), v2, v3] = [some (V.ref a), some (V.int m), w2, w3] ∧ Keep [a] H H ∧ Drw a c ns H := fun v2 v3 => ⟨_, _, rfl, Keep.refl, i, b, g, hi, ha, hc⟩
      refine ite_dec (fun h0 => ?_) (fun h0 => ?_)
      · walk_at "r"
        rw [List.length_map]
        refine ite_dec (fun hl => ?_) (fun hl => ?_)
        · obtain ⟨v, hv⟩ := at_int hi hl
          walk_at "r"
          intro H1 k1 h1
          have hc1 : H1 c = some (.lst (ns.map V.int)) := k1.get hc (by simp [had])
          skip
          walk_at "r"
          refine ite_dec (fun hv => ?_) (fun hv => ?_)
          · walk_at "r"
            intro H2 k2 h2
            skip
            exact ⟨_, _, rfl, k1.trans k2, _, _, _, by omega, h2, k2.get hc1 (by simp [had])⟩
          · walk_at "r"
            intro H2 k2 h2
            skip
            exact ⟨_, _, rfl, k1.trans k2, _, _, _, by omega, h2, k2.get hc1 (by simp [had])⟩
        · walk_at "r"
          exact skip _ _
      · walk_at "r"
        exact skip _ _
    · rintro σ' H1 ⟨v2, v3, rfl, k1, j, b1, g1, hj, h1, hc1⟩
      walk_at "r"
      refine ite_dec (fun h0 => ?_) (fun h0 => ?_)
      · walk_at "r"
        refine w_I (cdw hm hm2) ?_
        walk_at "r"
        intro H2 k2 h2
        skip
        walk_at "r"
        exact q _ H2 (Int.emod_nonneg _ (by omega)) (Int.emod_lt_of_pos _ hm) (k1.trans k2) ⟨_, _, _, hj, h2, k2.get hc1 (by simp [had])⟩
      · walk_at "r"
        intro H2 k2 h2
        skip
        walk_at "r"
        exact q _ H2 (Int.emod_nonneg _ (by omega)) (Int.emod_lt_of_pos _ hm) (k1.trans k2) ⟨_, _, _, hj, h2, k2.get hc1 (by simp [had])⟩
end My

end
section
set_option maxHeartbeats 4000000
local macro_rules | `(tactic| walk_at "k") => `(tactic| first
  | assumption
  | exact W.Keep.trans (by assumption) (by assumption)
  | exact And.intro (by grind [W.Keep, W.Kp]) (by grind [W.Keep, W.Kt])
  | grind [W.Keep, W.Kp])
local macro_rules | `(tactic| walk_at "f") => `(tactic| first
  | assumption
  | exact L2.SqL.of (by assumption)
  | exact L2.SqT.of (by assumption)
  | exact L2.SqL.of L2.upd_same
  | exact L2.SqT.of L2.upd_same
  | exact L2.upd_same
  | exact W.carryL (by assumption) (by assumption)
  | exact W.carryL (by assumption) (by walk_at "k")
  | exact W.carryT (by assumption) (by walk_at "k")
  | exact W.carry (by assumption) (by grind [W.Keep, W.Kp])
  | exact L2.SqL.of (W.carry (by assumption) (by grind [W.Keep, W.Kp]))
  | exact L2.SqT.of (W.carry (by assumption) (by grind [W.Keep, W.Kp])))
local macro_rules | `(tactic| walk_at "a") => `(tactic| first
  | assumption
  | rfl)
local macro_rules | `(tactic| walk_at "n") => `(tactic| first
  | assumption
  | exact Nat.zero_le _
  | decide
  | (simp only [List.length_cons, List.length_nil]; decide)
  | omega
  | (simp only [PySem.sizeLine_eq]; omega)
  | (simp only [List.length_map, List.length_append, List.length_cons, List.length_nil, PySem.sizeLine_eq]; omega)
  | (simp only [List.length_map, List.length_append, List.length_cons, List.length_nil, List.length_take, List.length_drop, PySem.sizeLine_eq]; omega)
  | (simp only [List.length_map, List.length_append, List.length_cons, List.length_nil, PySem.sizeLine_eq] at *; omega))
local macro_rules | `(tactic| walk_at "c") => `(tactic| first
  | assumption
  | decide
  | exact And.intro (by decide) (by decide)
  | exact Or.inr (And.intro (by decide) (by decide))
  | exact Or.inl (And.intro (by decide) (by decide))
  | exact And.intro (by decide) (And.intro (by decide) (by decide))
  | exact (show (0 : Int) < _ by decide)
  | exact And.intro (by omega) (by omega)
  | exact Or.inl (And.intro (by omega) (by omega))
  | exact Or.inr (And.intro (by omega) (by omega))
  | exact (show (0 : Int) < _ by omega))
local macro_rules | `(tactic| walk_at "v") => `(tactic| with_reducible first
  | refine W.v0 ?_ | refine W.v1 ?_ | refine W.v2 ?_ | refine W.v3 ?_ | refine W.v4 ?_ | refine W.v5 ?_ | refine W.v6 ?_ | refine W.v7 ?_ | refine W.v8 ?_
  | refine W.v9 ?_ | refine W.v10 ?_ | refine W.v11 ?_ | refine W.v12 ?_ | refine W.v13 ?_ | refine W.v14 ?_ | refine W.v15 ?_ | refine W.v16 ?_ | refine W.v17 ?_
  | refine W.g0 ?_ | refine W.g1 ?_ | refine W.g2 ?_ | refine W.g3 ?_ | refine W.g4 ?_ | refine W.g5 ?_ | refine W.g6 ?_ | refine W.g7 ?_ | refine W.g8 ?_
  | refine W.g9 ?_ | refine W.g10 ?_ | refine W.g11 ?_ | refine W.g12 ?_ | refine W.g13 ?_ | refine W.g14 ?_ | refine W.g15 ?_)
local macro_rules | `(tactic| walk_at "e") => `(tactic| with_reducible first
  | refine W.e_c ?_ | refine W.e_op ?_ | refine W.s_seq ?_ | refine W.s_asg ?_ | refine W.e_CB ?_ | refine W.a_cons ?_ | refine W.a_nil ?_ | refine W.e_call ?_
  | refine W.t_test ?_ | refine W.w_B ?_ | refine W.s_if ?_ | refine W.s_ret ?_ | refine W.s_drop ?_ | refine W.e_un ?_ | refine W.e_fld ?_ | refine W.s_fld ?_
  | refine W.e_meth ?_ | refine W.e_if ?_ | refine W.e_lst ?_ | refine W.e_tup ?_ | refine W.e_sl ?_ | refine W.o_none ?_ | refine W.o_some ?_ | refine W.w_part ?_
  | refine W.e_bm ?_ | refine W.e_bm0 ?_ | refine W.t_B ?_ | refine W.t_and ?_ | refine W.t_or ?_ | refine W.t_not ?_ | refine W.e_andV ?_ | refine W.e_orV ?_ | refine W.e_notV ?_ | refine W.w_BV ?_ | refine W.e_chain ?_
  | refine W.s_aug ?_ | refine W.s_augS ?_ | refine W.s_next ?_ | refine W.s_brk ?_ | refine W.s_cont ?_ | refine W.s_retN ?_ | refine W.s_fa ?_ | refine W.e_make ?_ | refine W.w_make ?_
  | refine W.w_I0 ?_ | refine W.w_U ?_ | refine W.w_aug ?_ | refine W.w_eqI ?_ | refine W.w_neI ?_ | refine W.w_eqS ?_ | refine W.w_neS ?_ | refine W.w_eqB ?_ | refine W.w_neB ?_
  | refine W.w_int ?_ | refine W.w_intB ?_ | refine W.w_min ?_ | refine W.w_max ?_ | refine W.w_isN ?_ | refine W.w_isI ?_ | refine W.w_isS ?_ | refine W.w_isB ?_ | refine W.w_isR ?_
  | refine W.w_notN ?_ | refine W.w_notI ?_ | refine W.w_notR ?_ | refine W.w_notS ?_ | refine W.w_eqNI ?_ | refine W.w_neNI ?_ | refine W.w_eqN ?_ | refine W.w_neN ?_
  | refine W.s_forL ?_ | refine W.s_forT ?_ | refine W.s_forS ?_ | refine W.s_forR1 ?_ | refine W.s_forR2 ?_ | refine W.s_forR3 ?_ | refine W.s_forZ ?_ | refine W.s_forE ?_
  | refine W.e_lcL ?_ | refine W.e_lcT ?_ | refine W.w_ord ?_ | refine W.e_lcR1 ?_ | refine W.e_lcR2 ?_ | refine W.e_lcZ ?_ | refine W.e_lcS ?_ | refine W.t_yes ?_ | refine W.w_gcons ?_ | refine W.w_gnil ?_ | refine W.s_par ?_ | refine W.w_par ?_ | refine W.g_sub ?_ | refine W.e_m1 ?_ | refine W.w_strR ?_ | refine W.w_rAdd ?_ | refine W.w_rSub ?_ | refine W.s_raise ?_ | refine W.s_try ?_ | refine W.e_methS ?_)
local macro_rules | `(tactic| walk_at "w") => `(tactic| first
  | ((with_reducible refine' W.w_I ?wh ?wq); (case wh => walk_at "c"))
  | ((with_reducible refine' W.w_ixL (n := 0) ?wh ?we ?wq); (case wh => walk_at "f"); (case we => walk_at "a"))
  | ((with_reducible refine' W.w_ixT (n := 0) ?wh ?we ?wq); (case wh => walk_at "f"); (case we => walk_at "a"))
  | ((with_reducible refine' W.w_lenL ?wh ?wq); (case wh => walk_at "f"))
  | ((with_reducible refine' W.w_lenT ?wh ?wq); (case wh => walk_at "f"))
  | ((with_reducible refine' W.w_lenS ?wh ?wq); (case wh => walk_at "n"))
  | ((with_reducible refine' W.w_app ?wh ?we ?wq); (case wh => walk_at "f"); (case we => walk_at "n"))
  | ((with_reducible refine' W.w_meth ?wh ?we ?wq); (case wh => walk_at "f"); (case we => first | assumption | rfl))
  | ((with_reducible refine' W.w_ixLTl ?wh ?we ?wq); (case wh => walk_at "f"); (case we => walk_at "a"))
  | ((with_reducible refine' W.w_ixLTt ?wh ?we ?wq); (case wh => walk_at "f"); (case we => walk_at "a"))
  | ((with_reducible refine' W.w_addS ?wh ?wq); (case wh => walk_at "n"))
  | ((with_reducible refine' W.w_set ?wh ?we ?wq); (case wh => walk_at "f"); (case we => walk_at "a"))
  | ((with_reducible refine' W.w_tup ?wh ?we ?wq); (case wh => walk_at "f"); (case we => first | assumption | rfl))
  | ((with_reducible refine' W.w_slS ?wh ?wq); (case wh => walk_at "n"))
  | ((with_reducible refine' W.w_rApp ?wh ?we ?wq); (case wh => walk_at "f"); (case we => walk_at "n"))
  | ((with_reducible refine' W.w_newL ?wh ?wq); (case wh => walk_at "n"))
  | ((with_reducible refine' W.w_newT ?wh ?wq); (case wh => walk_at "n"))
  | ((with_reducible refine' W.w_listL ?wh ?wq); (case wh => walk_at "f"))
  | ((with_reducible refine' W.w_tupL ?wh ?wq); (case wh => walk_at "f"))
  | ((with_reducible refine' W.w_slL ?wh ?wq); (case wh => walk_at "f"))
  | ((with_reducible refine' W.w_cat ?wh ?wf ?we ?wq); (case wh => walk_at "f"); (case wf => walk_at "f"); (case we => walk_at "n"))
  | ((with_reducible refine' W.w_catT ?wh ?wf ?wx ?wy ?we ?wq); (case wh => walk_at "f"); (case wf => walk_at "f"); (case wx => exact List.cons_ne_nil _ _); (case wy => exact List.cons_ne_nil _ _); (case we => walk_at "n"))
  | ((with_reducible refine' W.w_ext ?wh ?wf ?we ?wq); (case wh => walk_at "f"); (case wf => walk_at "f"); (case we => walk_at "n"))
  | ((with_reducible refine' W.w_recv ?wh ?wq); (case wh => walk_at "f"))
  | ((with_reducible refine' W.w_isi1 ?wh ?we ?wq); (case wh => assumption); (case we => decide +kernel))
  | ((with_reducible refine' W.w_isi0 ?wh ?we ?wq); (case wh => assumption); (case we => decide +kernel))
  | ((with_reducible refine' W.w_isiT10 ?wh ?wf ?we ?wg ?wq); (case wh => assumption); (case wf => walk_at "f"); (case we => decide +kernel); (case wg => decide +kernel))
  | ((with_reducible refine' W.w_isiT01 ?wh ?wf ?we ?wg ?wq); (case wh => assumption); (case wf => walk_at "f"); (case we => decide +kernel); (case wg => decide +kernel))
  | ((with_reducible refine' W.w_isiT00 ?wh ?wf ?we ?wg ?wq); (case wh => assumption); (case wf => walk_at "f"); (case we => decide +kernel); (case wg => decide +kernel))
  | ((with_reducible refine' W.w_ins ?wh ?we ?wf ?wq); (case wh => walk_at "f"); (case we => walk_at "n"); (case wf => walk_at "c"))
  | ((with_reducible refine' W.w_unl ?wh ?we ?wq); (case wh => walk_at "f"); (case we => first | assumption | rfl))
  | ((with_reducible refine' W.ite_T ?_))
  | ((with_reducible refine' W.ite_F ?_))
  | ((with_reducible refine' W.ite_nT ?_))
  | ((with_reducible refine' W.ite_nF ?_))
  | ((with_reducible refine' W.ite_self ?_))
  | ((with_reducible refine' W.ite_nself ?_))
  | ((with_reducible refine' W.ite_tf ?_))
  | ((with_reducible refine' W.ite_ft ?_))
  | ((with_reducible refine' W.ite_ntf ?_))
  | ((with_reducible refine' W.ite_nft ?_))
  | ((with_reducible refine' And.intro ?wl ?wq); (case wl => rfl)))
local macro_rules | `(tactic| walk_at "i") => `(tactic| try (dsimp only [L2.cxOf, L2.wipe, List.map, List.set]))
local macro_rules | `(tactic| walk_at "s") => `(tactic| first | walk_at "v" | walk_at "e" | walk_at "w")
local macro_rules | `(tactic| walk_at "r") => `(tactic| repeat walk_at "s")

namespace My
open PySem L2 W
variable {P : Program} {w : World} {K : PySem.W.Frag} {mg : Str → Option Value} {base : Heap} {A : Adr}
/-! equal data are told to be the same -/
def sp_same : Nat → Sp
  | 0 => fun _ _ _ _ => False
  | n + 1 => fun vs H Q _ => ∃ (x y : V) (d : PyData), vs = [x, y] ∧ Da H d x ∧ Da H d y ∧ dep d ≤ n ∧ wid d ≤ 16777216 ∧ ∀ H', Keep [] H H' → Q (.bl true) H'
theorem ok__law_same (e : Env K mg A) : ∀ n, FnOk P w K mg base CX0 (n + 1) A.f__law_same A.d__law_same ["actual", "expected"] (sp_same n)
  | 0 => ⟨fun _ _ _ _ h => h.elim, fun _ _ _ _ _ _ _ _ _ _ _ _ _ h => h.elim⟩
  | n + 1 => by
    have G__law_same := ok__law_same e n
    refine e.F__law_same.ok sc__law_same (fun vs H Q E h => ?_) (fun cdv AA outer s H vs Q E hr h => ?_)
    · obtain ⟨x, y, d, rfl, _⟩ := h
      rfl
    · obtain ⟨x, y, d, rfl, hx, hy, hd, hw, q⟩ := h
      refine ⟨_, (pss_cons (ps_if (pt_cmpR op_isNo (pv 1) pe_non (nomark _)) (pss_one (ps_ret (pe_cmpR op_isNo (pv 0) pe_non (nomark _)))) pss_nil)
    (pss_cons (ps_if (pt_val (pe_callB (call_isiK (K := K)) (by rfl) e.n_isinstance (by decide +kernel) (pa_cons (pv 1) (pa_cons (pe_bltn (v := .ty "bool") (by rfl) e.n_bool (by decide +kernel) rfl) pa_nil)))) (pss_one (ps_ret (pe_and (pe_callB (call_isiK (K := K)) (by rfl) e.n_isinstance (by decide +kernel) (pa_cons (pv 0) (pa_cons (pe_bltn (v := .ty "bool") (by rfl) e.n_bool (by decide +kernel) rfl) pa_nil))) (pe_one (pe_cmpR op_eq (pv 0) (pv 1) (nomark _)))))) pss_nil)
    (pss_cons (ps_if (pt_val (pe_callB (call_isiK (K := K)) (by rfl) e.n_isinstance (by decide +kernel) (pa_cons (pv 1) (pa_cons (pe_bltn (v := .ty "int") (by rfl) e.n_int (by decide +kernel) rfl) pa_nil)))) (pss_one (ps_ret (pe_and (pe_callB (call_isiK (K := K)) (by rfl) e.n_isinstance (by decide +kernel) (pa_cons (pv 0) (pa_cons (pe_bltn (v := .ty "int") (by rfl) e.n_int (by decide +kernel) rfl) pa_nil))) (pe_and (pe_not (pe_callB (call_isiK (K := K)) (by rfl) e.n_isinstance (by decide +kernel) (pa_cons (pv 0) (pa_cons (pe_bltn (v := .ty "bool") (by rfl) e.n_bool (by decide +kernel) rfl) pa_nil)))) (pe_one (pe_cmpR op_eq (pv 0) (pv 1) (nomark _))))))) pss_nil)
    (pss_cons (ps_if (pt_val (pe_callB (call_isiK (K := K)) (by rfl) e.n_isinstance (by decide +kernel) (pa_cons (pv 1) (pa_cons (pe_bltn (v := .ty "str") (by rfl) e.n_str (by decide +kernel) rfl) pa_nil)))) (pss_one (ps_ret (pe_and (pe_callB (call_isiK (K := K)) (by rfl) e.n_isinstance (by decide +kernel) (pa_cons (pv 0) (pa_cons (pe_bltn (v := .ty "str") (by rfl) e.n_str (by decide +kernel) rfl) pa_nil))) (pe_one (pe_cmpR op_eq (pv 0) (pv 1) (nomark _)))))) pss_nil)
    (pss_cons (ps_if (PW.pt (pw_and (pt_val (pe_callB (call_isiK (K := K)) (by rfl) e.n_isinstance (by decide +kernel) (pa_cons (pv 1) (pa_cons (pe_bltn (v := .ty "tuple") (by rfl) e.n_tuple (by decide +kernel) rfl) pa_nil)))) (pw_and1 (pt_not (pt_val (pe_callB (call_isiK (K := K)) (by rfl) e.n_isinstance (by decide +kernel) (pa_cons (pv 0) (pa_cons (pe_bltn (v := .ty "tuple") (by rfl) e.n_tuple (by decide +kernel) rfl) pa_nil)))))))) (pss_one (ps_ret pe_bl)) pss_nil)
    (pss_cons (ps_if (PW.pt (pw_and (pt_val (pe_callB (call_isiK (K := K)) (by rfl) e.n_isinstance (by decide +kernel) (pa_cons (pv 1) (pa_cons (pe_bltn (v := .ty "list") (by rfl) e.n_list (by decide +kernel) rfl) pa_nil)))) (pw_and1 (pt_not (pt_val (pe_callB (call_isiK (K := K)) (by rfl) e.n_isinstance (by decide +kernel) (pa_cons (pv 0) (pa_cons (pe_bltn (v := .ty "list") (by rfl) e.n_list (by decide +kernel) rfl) pa_nil)))))))) (pss_one (ps_ret pe_bl)) pss_nil)
    (pss_cons (ps_if (pt_cmpR op_ne (pe_callB (call_lenLK (K := K)) (by rfl) e.n_len (by decide +kernel) (pa_cons (pv 0) pa_nil)) (pe_callB (call_lenLK (K := K)) (by rfl) e.n_len (by decide +kernel) (pa_cons (pv 1) pa_nil)) (nomark _)) (pss_one (ps_ret pe_bl)) pss_nil)
    (pss_cons (ps_for PassesOwn.never rfl (pi_range1 rfl e.n_range (pa_cons (pe_callB (call_lenLK (K := K)) (by rfl) e.n_len (by decide +kernel) (pa_cons (pv 1) pa_nil)) pa_nil)) (pg_name (i := 2) sc__law_same.nd rfl (Or.inl rfl)) (pss_one (ps_if (pt_not (pt_val (pe_call G__law_same (hr.mono (by omega)) (by rfl) e.m__law_same e.k__law_same e.b__law_same .nil pass0 (pa_cons (pe_ix (ix_ltK (K := K)) (pv 0) (pv 2) (fun _ _ => rfl)) (pa_cons (pe_ix (ix_ltK (K := K)) (pv 1) (pv 2) (fun _ _ => rfl)) pa_nil))))) (pss_one (ps_ret pe_bl)) pss_nil)))
    (pss_one (ps_ret pe_bl)))))))))), ?_⟩
      refine enter (st__law_same _ _) ?_
      walk_at "i"
      have hx1 := hx
      have hy1 := hy
      have tx := hx1.ty (K := K)
      have ty := hy1.ty (K := K)
      cases d with
      | none =>
        simp only [Da] at hx1 hy1
        simp only [tyName] at tx ty
        subst hx1 hy1
        walk_at "r"
        exact q _ Keep.refl
      | bool b =>
        simp only [Da] at hx1 hy1
        simp only [tyName] at tx ty
        subst hx1 hy1
        walk_at "r"
        simp only [decide_true]
        exact q _ Keep.refl
      | int i =>
        simp only [Da] at hx1 hy1
        simp only [tyName] at tx ty
        subst hx1 hy1
        walk_at "r"
        simp only [decide_true]
        exact q _ Keep.refl
      | str z =>
        simp only [Da] at hx1 hy1
        simp only [tyName] at tx ty
        subst hx1 hy1
        walk_at "r"
        simp only [decide_true]
        exact q _ Keep.refl
      | list ds =>
        simp only [Da] at hx1 hy1
        simp only [tyName] at tx ty
        obtain ⟨a, xs, rfl, ha, hxs⟩ := hx1
        obtain ⟨b, ys, rfl, hb, hys⟩ := hy1
        walk_at "r"
        rw [hxs.len, hys.len]
        walk_at "r"
        rw [hys.len]
        have hz : ds.length ≤ 16777216 := by simp only [wid] at hw; omega
        refine forR1 (by omega) (by omega) (fun i σ H' => ∃ v2, σ = [some (.ref a), some (.ref b), v2] ∧ Keep [] H H') ⟨_, rfl, Keep.refl⟩ ?_ ?_
        · rintro i σ H2 hi ⟨v2, rfl, k2⟩
          have ha2 : H2 a = some (.lst xs) := k2.same _ _ ha
          have hb2 : H2 b = some (.lst ys) := k2.same _ _ hb
          obtain ⟨x, ex⟩ : ∃ x, xs[i]? = some x := ⟨_, List.getElem?_eq_getElem (by have := hxs.len; omega)⟩
          obtain ⟨y, ey⟩ : ∃ y, ys[i]? = some y := ⟨_, List.getElem?_eq_getElem (by have := hys.len; omega)⟩
          have ax := atI_nat ex
          have ay := atI_nat ey
          obtain ⟨d, ed, dx⟩ := hxs.get ex
          obtain ⟨d', ed', dy⟩ := hys.get ey
          rw [ed] at ed'
          cases ed'
          walk_at "r"
          cases n with
          | zero => simp only [dep] at hd; omega
          | succ n =>
            refine ⟨x, y, d, rfl, dx.mono k2.same, dy.mono k2.same, ?_, ?_, fun H3 k3 => ?_⟩
            · have := depL_get ed
              simp only [dep] at hd
              omega
            · have := widL_get ed
              simp only [wid] at hw
              omega
            walk_at "r"
            exact ⟨_, rfl, k2.trans k3⟩
        · rintro σ H2 ⟨v2, rfl, k2⟩
          walk_at "r"
          exact q _ k2
      | tuple ds =>
        simp only [Da] at hx1 hy1
        simp only [tyName] at tx ty
        obtain ⟨a, xs, rfl, ha, hxs⟩ := hx1
        obtain ⟨b, ys, rfl, hb, hys⟩ := hy1
        walk_at "r"
        rw [hxs.len, hys.len]
        walk_at "r"
        rw [hys.len]
        have hz : ds.length ≤ 16777216 := by simp only [wid] at hw; omega
        refine forR1 (by omega) (by omega) (fun i σ H' => ∃ v2, σ = [some (.ref a), some (.ref b), v2] ∧ Keep [] H H') ⟨_, rfl, Keep.refl⟩ ?_ ?_
        · rintro i σ H2 hi ⟨v2, rfl, k2⟩
          have ha2 : H2 a = some (.tup xs) := k2.same _ _ ha
          have hb2 : H2 b = some (.tup ys) := k2.same _ _ hb
          obtain ⟨x, ex⟩ : ∃ x, xs[i]? = some x := ⟨_, List.getElem?_eq_getElem (by have := hxs.len; omega)⟩
          obtain ⟨y, ey⟩ : ∃ y, ys[i]? = some y := ⟨_, List.getElem?_eq_getElem (by have := hys.len; omega)⟩
          have ax := atI_nat ex
          have ay := atI_nat ey
          obtain ⟨d, ed, dx⟩ := hxs.get ex
          obtain ⟨d', ed', dy⟩ := hys.get ey
          rw [ed] at ed'
          cases ed'
          walk_at "r"
          cases n with
          | zero => simp only [dep] at hd; omega
          | succ n =>
            refine ⟨x, y, d, rfl, dx.mono k2.same, dy.mono k2.same, ?_, ?_, fun H3 k3 => ?_⟩
            · have := depL_get ed
              simp only [dep] at hd
              omega
            · have := widL_get ed
              simp only [wid] at hw
              omega
            walk_at "r"
            exact ⟨_, rfl, k2.trans k3⟩
        · rintro σ H2 ⟨v2, rfl, k2⟩
          walk_at "r"
          exact q _ k2
      | dict ds => simp [Da] at hx
end My

end
section
set_option maxHeartbeats 4000000
local macro_rules | `(tactic| walk_at "k") => `(tactic| first
  | assumption
  | exact W.Keep.trans (by assumption) (by assumption)
  | exact And.intro (by grind [W.Keep, W.Kp]) (by grind [W.Keep, W.Kt])
  | grind [W.Keep, W.Kp])
local macro_rules | `(tactic| walk_at "f") => `(tactic| first
  | assumption
  | exact L2.SqL.of (by assumption)
  | exact L2.SqT.of (by assumption)
  | exact L2.SqL.of L2.upd_same
  | exact L2.SqT.of L2.upd_same
  | exact L2.upd_same
  | exact W.carryL (by assumption) (by assumption)
  | exact W.carryL (by assumption) (by walk_at "k")
  | exact W.carryT (by assumption) (by walk_at "k")
  | exact W.carry (by assumption) (by grind [W.Keep, W.Kp])
  | exact L2.SqL.of (W.carry (by assumption) (by grind [W.Keep, W.Kp]))
  | exact L2.SqT.of (W.carry (by assumption) (by grind [W.Keep, W.Kp])))
local macro_rules | `(tactic| walk_at "a") => `(tactic| first
  | assumption
  | rfl)
local macro_rules | `(tactic| walk_at "n") => `(tactic| first
  | assumption
  | exact Nat.zero_le _
  | decide
  | (simp only [List.length_cons, List.length_nil]; decide)
  | omega
  | (simp only [PySem.sizeLine_eq]; omega)
  | (simp only [List.length_map, List.length_append, List.length_cons, List.length_nil, PySem.sizeLine_eq]; omega)
  | (simp only [List.length_map, List.length_append, List.length_cons, List.length_nil, List.length_take, List.length_drop, PySem.sizeLine_eq]; omega)
  | (simp only [List.length_map, List.length_append, List.length_cons, List.length_nil, PySem.sizeLine_eq] at *; omega))
local macro_rules | `(tactic| walk_at "c") => `(tactic| first
  | assumption
  | decide
  | exact And.intro (by decide) (by decide)
  | exact Or.inr (And.intro (by decide) (by decide))
  | exact Or.inl (And.intro (by decide) (by decide))
  | exact And.intro (by decide) (And.intro (by decide) (by decide))
  | exact (show (0 : Int) < _ by decide)
  | exact And.intro (by omega) (by omega)
  | exact Or.inl (And.intro (by omega) (by omega))
  | exact Or.inr (And.intro (by omega) (by omega))
  | exact (show (0 : Int) < _ by omega))
local macro_rules | `(tactic| walk_at "v") => `(tactic| with_reducible first
  | refine W.v0 ?_ | refine W.v1 ?_ | refine W.v2 ?_ | refine W.v3 ?_ | refine W.v4 ?_ | refine W.v5 ?_ | refine W.v6 ?_ | refine W.v7 ?_ | refine W.v8 ?_
  | refine W.v9 ?_ | refine W.v10 ?_ | refine W.v11 ?_ | refine W.v12 ?_ | refine W.v13 ?_ | refine W.v14 ?_ | refine W.v15 ?_ | refine W.v16 ?_ | refine W.v17 ?_
  | refine W.g0 ?_ | refine W.g1 ?_ | refine W.g2 ?_ | refine W.g3 ?_ | refine W.g4 ?_ | refine W.g5 ?_ | refine W.g6 ?_ | refine W.g7 ?_ | refine W.g8 ?_
  | refine W.g9 ?_ | refine W.g10 ?_ | refine W.g11 ?_ | refine W.g12 ?_ | refine W.g13 ?_ | refine W.g14 ?_ | refine W.g15 ?_)
local macro_rules | `(tactic| walk_at "e") => `(tactic| with_reducible first
  | refine W.e_c ?_ | refine W.e_op ?_ | refine W.s_seq ?_ | refine W.s_asg ?_ | refine W.e_CB ?_ | refine W.a_cons ?_ | refine W.a_nil ?_ | refine W.e_call ?_
  | refine W.t_test ?_ | refine W.w_B ?_ | refine W.s_if ?_ | refine W.s_ret ?_ | refine W.s_drop ?_ | refine W.e_un ?_ | refine W.e_fld ?_ | refine W.s_fld ?_
  | refine W.e_meth ?_ | refine W.e_if ?_ | refine W.e_lst ?_ | refine W.e_tup ?_ | refine W.e_sl ?_ | refine W.o_none ?_ | refine W.o_some ?_ | refine W.w_part ?_
  | refine W.e_bm ?_ | refine W.e_bm0 ?_ | refine W.t_B ?_ | refine W.t_and ?_ | refine W.t_or ?_ | refine W.t_not ?_ | refine W.e_andV ?_ | refine W.e_orV ?_ | refine W.e_notV ?_ | refine W.w_BV ?_ | refine W.e_chain ?_
  | refine W.s_aug ?_ | refine W.s_augS ?_ | refine W.s_next ?_ | refine W.s_brk ?_ | refine W.s_cont ?_ | refine W.s_retN ?_ | refine W.s_fa ?_ | refine W.e_make ?_ | refine W.w_make ?_
  | refine W.w_I0 ?_ | refine W.w_U ?_ | refine W.w_aug ?_ | refine W.w_eqI ?_ | refine W.w_neI ?_ | refine W.w_eqS ?_ | refine W.w_neS ?_ | refine W.w_eqB ?_ | refine W.w_neB ?_
  | refine W.w_int ?_ | refine W.w_intB ?_ | refine W.w_min ?_ | refine W.w_max ?_ | refine W.w_isN ?_ | refine W.w_isI ?_ | refine W.w_isS ?_ | refine W.w_isB ?_ | refine W.w_isR ?_
  | refine W.w_notN ?_ | refine W.w_notI ?_ | refine W.w_notR ?_ | refine W.w_notS ?_ | refine W.w_eqNI ?_ | refine W.w_neNI ?_ | refine W.w_eqN ?_ | refine W.w_neN ?_
  | refine W.s_forL ?_ | refine W.s_forT ?_ | refine W.s_forS ?_ | refine W.s_forR1 ?_ | refine W.s_forR2 ?_ | refine W.s_forR3 ?_ | refine W.s_forZ ?_ | refine W.s_forE ?_
  | refine W.e_lcL ?_ | refine W.e_lcT ?_ | refine W.w_ord ?_ | refine W.e_lcR1 ?_ | refine W.e_lcR2 ?_ | refine W.e_lcZ ?_ | refine W.e_lcS ?_ | refine W.t_yes ?_ | refine W.w_gcons ?_ | refine W.w_gnil ?_ | refine W.s_par ?_ | refine W.w_par ?_ | refine W.g_sub ?_ | refine W.e_m1 ?_ | refine W.w_strR ?_ | refine W.w_rAdd ?_ | refine W.w_rSub ?_ | refine W.s_raise ?_ | refine W.s_try ?_ | refine W.e_methS ?_)
local macro_rules | `(tactic| walk_at "w") => `(tactic| first
  | ((with_reducible refine' W.w_I ?wh ?wq); (case wh => walk_at "c"))
  | ((with_reducible refine' W.w_ixL (n := 0) ?wh ?we ?wq); (case wh => walk_at "f"); (case we => walk_at "a"))
  | ((with_reducible refine' W.w_ixT (n := 0) ?wh ?we ?wq); (case wh => walk_at "f"); (case we => walk_at "a"))
  | ((with_reducible refine' W.w_lenL ?wh ?wq); (case wh => walk_at "f"))
  | ((with_reducible refine' W.w_lenT ?wh ?wq); (case wh => walk_at "f"))
  | ((with_reducible refine' W.w_lenS ?wh ?wq); (case wh => walk_at "n"))
  | ((with_reducible refine' W.w_app ?wh ?we ?wq); (case wh => walk_at "f"); (case we => walk_at "n"))
  | ((with_reducible refine' W.w_meth ?wh ?we ?wq); (case wh => walk_at "f"); (case we => first | assumption | rfl))
  | ((with_reducible refine' W.w_ixLTl ?wh ?we ?wq); (case wh => walk_at "f"); (case we => walk_at "a"))
  | ((with_reducible refine' W.w_ixLTt ?wh ?we ?wq); (case wh => walk_at "f"); (case we => walk_at "a"))
  | ((with_reducible refine' W.w_addS ?wh ?wq); (case wh => walk_at "n"))
  | ((with_reducible refine' W.w_set ?wh ?we ?wq); (case wh => walk_at "f"); (case we => walk_at "a"))
  | ((with_reducible refine' W.w_tup ?wh ?we ?wq); (case wh => walk_at "f"); (case we => first | assumption | rfl))
  | ((with_reducible refine' W.w_slS ?wh ?wq); (case wh => walk_at "n"))
  | ((with_reducible refine' W.w_rApp ?wh ?we ?wq); (case wh => walk_at "f"); (case we => walk_at "n"))
  | ((with_reducible refine' W.w_newL ?wh ?wq); (case wh => walk_at "n"))
  | ((with_reducible refine' W.w_newT ?wh ?wq); (case wh => walk_at "n"))
  | ((with_reducible refine' W.w_listL ?wh ?wq); (case wh => walk_at "f"))
  | ((with_reducible refine' W.w_tupL ?wh ?wq); (case wh => walk_at "f"))
  | ((with_reducible refine' W.w_slL ?wh ?wq); (case wh => walk_at "f"))
  | ((with_reducible refine' W.w_cat ?wh ?wf ?we ?wq); (case wh => walk_at "f"); (case wf => walk_at "f"); (case we => walk_at "n"))
  | ((with_reducible refine' W.w_catT ?wh ?wf ?wx ?wy ?we ?wq); (case wh => walk_at "f"); (case wf => walk_at "f"); (case wx => exact List.cons_ne_nil _ _); (case wy => exact List.cons_ne_nil _ _); (case we => walk_at "n"))
  | ((with_reducible refine' W.w_ext ?wh ?wf ?we ?wq); (case wh => walk_at "f"); (case wf => walk_at "f"); (case we => walk_at "n"))
  | ((with_reducible refine' W.w_recv ?wh ?wq); (case wh => walk_at "f"))
  | ((with_reducible refine' W.w_isi1 ?wh ?we ?wq); (case wh => assumption); (case we => decide +kernel))
  | ((with_reducible refine' W.w_isi0 ?wh ?we ?wq); (case wh => assumption); (case we => decide +kernel))
  | ((with_reducible refine' W.w_isiT10 ?wh ?wf ?we ?wg ?wq); (case wh => assumption); (case wf => walk_at "f"); (case we => decide +kernel); (case wg => decide +kernel))
  | ((with_reducible refine' W.w_isiT01 ?wh ?wf ?we ?wg ?wq); (case wh => assumption); (case wf => walk_at "f"); (case we => decide +kernel); (case wg => decide +kernel))
  | ((with_reducible refine' W.w_isiT00 ?wh ?wf ?we ?wg ?wq); (case wh => assumption); (case wf => walk_at "f"); (case we => decide +kernel); (case wg => decide +kernel))
  | ((with_reducible refine' W.w_ins ?wh ?we ?wf ?wq); (case wh => walk_at "f"); (case we => walk_at "n"); (case wf => walk_at "c"))
  | ((with_reducible refine' W.w_unl ?wh ?we ?wq); (case wh => walk_at "f"); (case we => first | assumption | rfl))
  | ((with_reducible refine' W.ite_T ?_))
  | ((with_reducible refine' W.ite_F ?_))
  | ((with_reducible refine' W.ite_nT ?_))
  | ((with_reducible refine' W.ite_nF ?_))
  | ((with_reducible refine' W.ite_self ?_))
  | ((with_reducible refine' W.ite_nself ?_))
  | ((with_reducible refine' W.ite_tf ?_))
  | ((with_reducible refine' W.ite_ft ?_))
  | ((with_reducible refine' W.ite_ntf ?_))
  | ((with_reducible refine' W.ite_nft ?_))
  | ((with_reducible refine' And.intro ?wl ?wq); (case wl => rfl)))
local macro_rules | `(tactic| walk_at "i") => `(tactic| try (dsimp only [L2.cxOf, L2.wipe, List.map, List.set]))
local macro_rules | `(tactic| walk_at "s") => `(tactic| first | walk_at "v" | walk_at "e" | walk_at "w")
local macro_rules | `(tactic| walk_at "r") => `(tactic| repeat walk_at "s")

namespace My
open PySem L2 W
variable {P : Program} {w : World} {K : PySem.W.Frag} {mg : Str → Option Value} {base : Heap} {A : Adr}
/-! what is drawn -/
def sp_dnum : Sp := fun vs H Q _ => ∃ (a c : Addr) (ns : List Int), vs = [.ref a] ∧ Drw a c ns H ∧ ∀ (n : Nat) H', okn n → Keep [a] H H' → Drw a c ns H' → Q (.int (n : Int)) H'
theorem ok__law_drawn_number (e : Env K mg A) : FnOk P w K mg base CX0 2 A.f__law_drawn_number A.d__law_drawn_number ["state"] sp_dnum := by
  have G__law_next := ok__law_next (P := P) (w := w) (base := base) e
  refine e.F__law_drawn_number.ok sc__law_drawn_number (fun vs H Q E h => ?_) (fun cdv AA outer s H vs Q E hr h => ?_)
  · obtain ⟨a, c, ns, rfl, _⟩ := h
    rfl
  · obtain ⟨a, c, ns, rfl, hD, q⟩ := h
    refine ⟨_, (pss_one (ps_ret (pe_call G__law_next (hr.mono (by omega)) (by rfl) e.m__law_next e.k__law_next e.b__law_next .nil pass0 (pa_cons (pv 0) (pa_cons (pe_ix (ix_listK (K := K)) (pe_lst (pa_cons pe_int (pa_cons pe_int (pa_cons pe_int (pa_cons (pe_op op_pow pe_int pe_int) (pa_cons (pe_op op_mul (pe_op op_pow pe_int pe_int) pe_int) pa_nil)))))) (pe_call G__law_next (hr.mono (by omega)) (by rfl) e.m__law_next e.k__law_next e.b__law_next .nil pass0 (pa_cons (pv 0) (pa_cons pe_int pa_nil))) (fun _ _ => rfl)) pa_nil))))), ?_⟩
    refine enter (st__law_drawn_number _) ?_
    walk_at "i"
    walk_at "r"
    intro p H1 np k1 hp
    walk_at "r"
    refine ⟨a, c, ns, 5, rfl, hD.more k1, by decide, by decide, fun v H2 v0 v1 k2 D2 => ?_⟩
    have hp2 := k2.get hp (by simp [(hD.fre np).1])
    have hm : ∃ m, atI [V.int 3, V.int 128, V.int 300, V.int (128 ^ Int.toNat 3), V.int (2 ^ Int.toNat 60 * 1024)] v = some (.int m) ∧ 0 < m ∧ m ≤ 2 ^ 70 := by
      have : v = 0 ∨ v = 1 ∨ v = 2 ∨ v = 3 ∨ v = 4 := by omega
      rcases this with rfl | rfl | rfl | rfl | rfl <;> exact ⟨_, rfl, by decide, by decide⟩
    obtain ⟨m, hat, m0, m1⟩ := hm
    walk_at "r"
    refine ⟨a, c, ns, m, rfl, D2, m0, Int.lt_of_le_of_lt m1 (by decide), fun x H3 x0 x1 k3 D3 => ?_⟩
    obtain ⟨n, rfl⟩ := Int.eq_ofNat_of_zero_le x0
    exact q n H3 (show n < 2 ^ 70 by omega) (k1.any.trans (k2.trans k3)) D3
def letters : List Nat := 10 :: (List.range' 32 5 ++ List.range' 38 89)
theorem letters_ : Str.ofString "\n !\"#$&'()*+,-./0123456789:;<=>?@ABCDEFGHIJKLMNOPQRSTUVWXYZ[\\]^_`abcdefghijklmnopqrstuvwxyz{|}~" = tx letters := by decide +kernel
theorem letters_len : letters.length = 95 := by decide
theorem letters_ok : ∀ c ∈ letters, okch c = true := by decide
def sp_dtext : Sp := fun vs H Q _ => ∃ (a c : Addr) (ns : List Int), vs = [.ref a] ∧ Drw a c ns H ∧ ∀ (s : List Nat) H', oks s → s.length ≤ 140 → Keep [a] H H' → Drw a c ns H' → Q (.str (tx s)) H'
theorem ok__law_drawn_text (e : Env K mg A) : FnOk P w K mg base CX0 2 A.f__law_drawn_text A.d__law_drawn_text ["state"] sp_dtext := by
  have G__law_next := ok__law_next (P := P) (w := w) (base := base) e
  refine e.F__law_drawn_text.ok sc__law_drawn_text (fun vs H Q E h => ?_) (fun cdv AA outer s H vs Q E hr h => ?_)
  · obtain ⟨a, c, ns, rfl, _⟩ := h
    rfl
  · obtain ⟨a, c, ns, rfl, hD, q⟩ := h
    refine ⟨_, (pss_cons (ps_set (i := 1) sc__law_drawn_text.nd rfl (Or.inr rfl) pe_str)
    (pss_one (ps_ret (pe_joinK (K := K) pe_str (pe_lc (own := [("k", 2)]) (by rfl) sc__law_drawn_text.nd (pi_range1 rfl e.n_range (pa_cons (pe_call G__law_next (hr.mono (by omega)) (by rfl) e.m__law_next e.k__law_next e.b__law_next .nil pass0 (pa_cons (pv 0) (pa_cons (pe_ix (ix_listK (K := K)) (pe_lst (pa_cons pe_int (pa_cons pe_int (pa_cons pe_int (pa_cons pe_int pa_nil))))) (pe_call G__law_next (hr.mono (by omega)) (by rfl) e.m__law_next e.k__law_next e.b__law_next .nil pass0 (pa_cons (pv 0) (pa_cons pe_int pa_nil))) (fun _ _ => rfl)) pa_nil))) pa_nil)) (blkOk_by (own := [("k", 2)]) (N := nm__law_drawn_text) (sc := defScope s__law_drawn_text) (by decide +kernel)) (fun _ _ _ _ _ => (pg_name (i := 2) sc__law_drawn_text.nd rfl (Or.inl rfl))) (fun _ _ _ _ _ => pts_nil) (fun _ _ _ _ _ => (pe_ix ix_str (pv 1) (pe_call G__law_next (hr.mono (by omega)) (by rfl) e.m__law_next e.k__law_next e.b__law_next .nil pass0 (pa_cons (pv 0) (pa_cons (pe_callB call_lenS (by rfl) e.n_len (by decide +kernel) (pa_cons (pv 1) pa_nil)) pa_nil))) (fun _ _ => rfl)))))))), ?_⟩
    refine enter (st__law_drawn_text _) ?_
    walk_at "i"
    simp only [letters_, em_]
    have hll : (tx letters).length = 95 := by rw [tx_len, letters_len]
    have hzl : (tx letters).length ≤ PySem.sizeLine := by rw [hll, PySem.sizeLine_eq]; decide
    walk_at "r"
    intro p H1 np k1 hp
    walk_at "r"
    refine ⟨a, c, ns, 4, rfl, hD.more k1, by decide, by decide, fun v H2 v0 v1 k2 D2 => ?_⟩
    have hp2 := k2.get hp (by simp [(hD.fre np).1])
    have hm : ∃ m, atI [V.int 1, V.int 4, V.int 9, V.int 140] v = some (.int m) ∧ 0 < m ∧ m ≤ 140 := by
      have : v = 0 ∨ v = 1 ∨ v = 2 ∨ v = 3 := by omega
      rcases this with rfl | rfl | rfl | rfl <;> exact ⟨_, rfl, by decide, by decide⟩
    obtain ⟨m, hat, m0, m1⟩ := hm
    walk_at "r"
    refine ⟨a, c, ns, m, rfl, D2, m0, Int.lt_of_le_of_lt m1 (by decide), fun x H3 x0 x1 k3 D3 => ?_⟩
    have k13 : Keep [a] H H3 := k1.any.trans (k2.trans k3)
    clear hp hp2 hat
    walk_at "r"
    refine lcR1 (by omega) (by omega) (fun D i H' => Keep [a] H3 H' ∧ Drw a c ns H' ∧ ∃ l : List Nat, H' D = some (.lst (l.map fun c => V.str (tx [c]))) ∧ (∀ c ∈ l, okch c = true) ∧ l.length = i)
      (fun D H4 nD k4 hD => ⟨k4.any, D3.more k4, [], hD, by simp, rfl⟩) ?_ ?_
    · rintro D i H4 nD hi ⟨k4, D4, l, hD4, hl, hll2⟩
      have hDa := D3.fre nD
      walk_at "i"
      walk_at "r"
      refine ⟨a, c, ns, _, rfl, D4, by rw [hll]; decide, by rw [hll]; decide, fun y H5 y0 y1 k5 D5 => ?_⟩
      rw [hll] at y1
      obtain ⟨n, rfl⟩ := Int.eq_ofNat_of_zero_le y0
      have hn : n < letters.length := by rw [letters_len]; omega
      have hD5 := k5.get hD4 (by simp [hDa.1])
      have hll3 : (l.map fun c => V.str (tx [c])).length = i := by rw [List.length_map]; exact hll2
      refine w_ixS hzl (atI_tx (List.getElem?_eq_getElem hn)) ?_
      walk_at "r"
      intro H6 k6 h6
      refine ⟨(k4.trans k5).mut nD k6, D5.mut k6 hDa, l ++ [letters[n]], by rw [h6, List.map_append]; rfl, ?_, by rw [List.length_append, hll2]; rfl⟩
      intro z hz
      rcases List.mem_append.mp hz with hz | hz
      · exact hl z hz
      · rw [List.mem_singleton] at hz; rw [hz]; exact letters_ok _ (List.getElem_mem hn)
    · rintro D H4 nD ⟨k4, D4, l, hD4, hl, hll2⟩
      have hl140 : l.length ≤ 140 := by omega
      walk_at "r"
      refine ⟨tx [], D, l.map fun c => tx [c], rfl, rfl, .inl (SqL.of (by rw [hD4, List.map_map]; rfl)), ?_, ?_⟩
      · rw [List.map_map, List.length_map, tx_len]
        have : ((l.map ((fun x : Str => x.length) ∘ fun c => tx [c])).sum) = l.length := by
          clear hl hll2 hl140 hD4
          induction l with
          | nil => rfl
          | cons a r ih => rw [List.map_cons, List.sum_cons, ih, List.length_cons]; show (tx [a]).length + _ = _; rw [tx_len, List.length_singleton]; omega
        rw [this]; simp; omega
      · rw [join_tx1]
        exact q l H4 ⟨hl, by omega⟩ hl140 (k13.trans k4) D4
/-- small enough to be written -/
def small (d : Dd) : Prop := okd d ∧ (wd d).length ≤ 2000
def sp_ddeed : Sp := fun vs H Q _ => ∃ (a c : Addr) (ns : List Int), vs = [.ref a] ∧ Drw a c ns H ∧ ∀ (v : V) (d : Dd) H', vD H' d v → small d → Keep [a] H H' → Drw a c ns H' → Q v H'
theorem ws_le {s : List Nat} (h : oks s) : (ws s).length ≤ s.length + 3 := by
  have h1 := wn_len 2 s.length (Nat.lt_of_le_of_lt h.2 (by decide))
  have h2 : ((s.map wn).flatten).length = s.length := by
    have hs := h.1
    clear h h1
    induction s with
    | nil => rfl
    | cons c r ih =>
      rw [List.map_cons, List.flatten_cons, List.length_append, ih (fun x hx => hs x (by simp [hx])), wn_lo (Nat.lt_trans (okch_lt (hs c (by simp))) (by decide))]
      simp; omega
  unfold ws wl
  rw [List.length_append, List.length_map, h2]; omega
theorem wms_le : ∀ {rm : List (Nat × Nat)}, (∀ x ∈ rm, okm x) → ((rm.map wm).flatten).length ≤ 20 * rm.length
  | [], _ => by simp
  | m :: r, h => by
    have h1 := wm_le (h m (by simp))
    have h2 := wms_le (rm := r) (fun x hx => h x (by simp [hx]))
    rw [List.map_cons, List.flatten_cons, List.length_append, List.length_cons]; omega
theorem ok__law_drawn_deed (e : Env K mg A) : FnOk P w K mg base CX0 3 A.f__law_drawn_deed A.d__law_drawn_deed ["state"] sp_ddeed := by
  have G__law_next := ok__law_next (P := P) (w := w) (base := base) e
  have G__law_drawn_number := ok__law_drawn_number (P := P) (w := w) (base := base) e
  have G__law_drawn_text := ok__law_drawn_text (P := P) (w := w) (base := base) e
  refine e.F__law_drawn_deed.ok sc__law_drawn_deed (fun vs H Q E h => ?_) (fun cdv AA outer s H vs Q E hr h => ?_)
  · obtain ⟨a, c, ns, rfl, _⟩ := h
    rfl
  · obtain ⟨a, c, ns, rfl, hD, q⟩ := h
    refine ⟨_, (pss_cons (ps_if (pt_cmpR op_eq (pe_call G__law_next (hr.mono (by omega)) (by rfl) e.m__law_next e.k__law_next e.b__law_next .nil pass0 (pa_cons (pv 0) (pa_cons pe_int pa_nil))) pe_int (nomark _)) (pss_one (ps_ret (pe_tup (pa_cons pe_str (pa_cons (pe_call G__law_drawn_number (hr.mono (by omega)) (by rfl) e.m__law_drawn_number e.k__law_drawn_number e.b__law_drawn_number .nil pass0 (pa_cons (pv 0) pa_nil)) pa_nil))))) pss_nil)
    (pss_cons (ps_set (i := 1) sc__law_drawn_deed.nd rfl (Or.inl rfl) (pe_callTy (call_tupleLK (K := K)) (by rfl) e.n_tuple (by decide +kernel) (pa_cons (pe_lc (own := [("k", 2)]) (by rfl) sc__law_drawn_deed.nd (pi_range1 rfl e.n_range (pa_cons (pe_call G__law_next (hr.mono (by omega)) (by rfl) e.m__law_next e.k__law_next e.b__law_next .nil pass0 (pa_cons (pv 0) (pa_cons pe_int pa_nil))) pa_nil)) (blkOk_by (own := [("k", 2)]) (N := nm__law_drawn_deed) (sc := defScope s__law_drawn_deed) (by decide +kernel)) (fun _ _ _ _ _ => (pg_name (i := 2) sc__law_drawn_deed.nd rfl (Or.inl rfl))) (fun _ _ _ _ _ => pts_nil) (fun _ _ _ _ _ => (pe_tup (pa_cons (pe_call G__law_drawn_number (hr.mono (by omega)) (by rfl) e.m__law_drawn_number e.k__law_drawn_number e.b__law_drawn_number .nil pass0 (pa_cons (pv 0) pa_nil)) (pa_cons (pe_call G__law_next (hr.mono (by omega)) (by rfl) e.m__law_next e.k__law_next e.b__law_next .nil pass0 (pa_cons (pv 0) (pa_cons pe_int pa_nil))) pa_nil))))) pa_nil)))
    (pss_cons (ps_set (i := 3) sc__law_drawn_deed.nd rfl (Or.inl rfl) (pe_ix (ix_listK (K := K)) (pe_lst (pa_cons pe_non (pa_cons (pe_tup (pa_cons (pe_call G__law_drawn_number (hr.mono (by omega)) (by rfl) e.m__law_drawn_number e.k__law_drawn_number e.b__law_drawn_number .nil pass0 (pa_cons (pv 0) pa_nil)) (pa_cons (pe_call G__law_next (hr.mono (by omega)) (by rfl) e.m__law_next e.k__law_next e.b__law_next .nil pass0 (pa_cons (pv 0) (pa_cons pe_int pa_nil))) pa_nil))) pa_nil))) (pe_call G__law_next (hr.mono (by omega)) (by rfl) e.m__law_next e.k__law_next e.b__law_next .nil pass0 (pa_cons (pv 0) (pa_cons pe_int pa_nil))) (fun _ _ => rfl)))
    (pss_one (ps_ret (pe_tup (pa_cons pe_str (pa_cons (pe_call G__law_drawn_text (hr.mono (by omega)) (by rfl) e.m__law_drawn_text e.k__law_drawn_text e.b__law_drawn_text .nil pass0 (pa_cons (pv 0) pa_nil)) (pa_cons (pv 1) (pa_cons (pv 3) (pa_cons (pe_call G__law_drawn_number (hr.mono (by omega)) (by rfl) e.m__law_drawn_number e.k__law_drawn_number e.b__law_drawn_number .nil pass0 (pa_cons (pv 0) pa_nil)) (pa_cons (pe_call G__law_drawn_text (hr.mono (by omega)) (by rfl) e.m__law_drawn_text e.k__law_drawn_text e.b__law_drawn_text .nil pass0 (pa_cons (pv 0) pa_nil)) pa_nil)))))))))))), ?_⟩
    refine enter (st__law_drawn_deed _) ?_
    walk_at "i"
    walk_at "r"
    refine ⟨a, c, ns, 3, rfl, hD, by decide, by decide, fun v0 H1 _ _ k1 D1 => ?_⟩
    walk_at "r"
    refine ite_dec (fun _ => ?_) (fun _ => ?_)
    · walk_at "r"
      refine ⟨a, c, ns, rfl, D1, fun n H2 on k2 D2 => ?_⟩
      walk_at "r"
      intro t H3 nt k3 ht
      walk_at "r"
      exact q _ (.back n) H3 ⟨t, rfl, ht⟩ ⟨on, by have := wn_le10 on; show (1 :: wn n).length ≤ 2000; rw [List.length_cons]; omega⟩ (k1.trans (k2.trans k3.any)) (D2.more k3)
    walk_at "r"
    refine ⟨a, c, ns, 4, rfl, D1, by decide, by decide, fun x H2 x0 x1 k2 D2 => ?_⟩
    have k12 := k1.trans k2
    walk_at "r"
    refine lcR1 (by omega) (by omega) (fun D i H' => Keep [a] H2 H' ∧ Drw a c ns H' ∧ ∃ (us : List V) (rm : List (Nat × Nat)), H' D = some (.lst us) ∧ vMs H' rm us ∧ (∀ x ∈ rm, okm x) ∧ rm.length = i)
      (fun D H3 nD k3 hD => ⟨k3.any, D2.more k3, [], [], hD, Paired.nil, by simp, rfl⟩) ?_ ?_
    · rintro D i H3 nD hi ⟨k3, D3, us, rm, hD3, hM, ho, hl⟩
      have hDa := D2.fre nD
      have hul := vMs.len hM
      walk_at "i"
      walk_at "r"
      refine ⟨a, c, ns, rfl, D3, fun n H4 on k4 D4 => ?_⟩
      walk_at "r"
      refine ⟨a, c, ns, 8, rfl, D4, by decide, by decide, fun y H5 y0 y1 k5 D5 => ?_⟩
      obtain ⟨m, rfl⟩ := Int.eq_ofNat_of_zero_le y0
      walk_at "r"
      intro t H6 nt k6 ht
      have k46 := k4.trans (k5.trans k6.any)
      have hD6 := k46.get hD3 (by simp [hDa.1])
      walk_at "r"
      intro H7 k7 h7
      refine ⟨(k3.trans k46).mut nD k7, (D5.more k6).mut k7 hDa, us ++ [.ref t], rm ++ [(n, m)], h7, Paired.snoc (vMs.keep (vMs.keep hM k46) k7) ⟨t, rfl, k7.2 _ _ ht⟩, ?_, by rw [List.length_append, hl]; rfl⟩
      intro z hz
      rcases List.mem_append.mp hz with hz | hz
      · exact ho z hz
      · rw [List.mem_singleton] at hz; rw [hz]; exact ⟨on, show m < 2 ^ 70 by omega⟩
    · rintro D H3 nD ⟨k3, D3, us, rm, hD3, hM, ho, hl⟩
      have hrl : rm.length ≤ 3 := by omega
      walk_at "r"
      intro tr H4 nt k4 ht
      have k14 : Keep [a] H H4 := k12.trans (k3.trans k4.any)
      have D4 := D3.more k4
      have hM4 := vMs.keep hM k4
      clear hD3 hM k12 k3 k4 D3
      walk_at "r"
      refine ⟨a, c, ns, rfl, D4, fun n H5 on k5 D5 => ?_⟩
      walk_at "r"
      refine ⟨a, c, ns, 8, rfl, D5, by decide, by decide, fun y H6 y0 y1 k6 D6 => ?_⟩
      obtain ⟨m, rfl⟩ := Int.eq_ofNat_of_zero_le y0
      walk_at "r"
      intro tb H7 nb k7 htb
      walk_at "r"
      intro l2 H8 n8 k8 hl2
      have D8 := (D6.more k7).more k8
      walk_at "r"
      refine ⟨a, c, ns, 2, rfl, D8, by decide, by decide, fun v H9 v0 v1 k9 D9 => ?_⟩
      have hl9 := k9.get hl2 (by simp [((D6.more k7).fre n8).1])
      have hB : ∃ bh bv, atI [V.non, V.ref tb] v = some bv ∧ vB H9 bh bv ∧ (∀ x, bh = some x → okm x) := by
        have : v = 0 ∨ v = 1 := by omega
        rcases this with rfl | rfl
        · exact ⟨none, _, rfl, rfl, by simp⟩
        · exact ⟨some (n, m), _, rfl, ⟨tb, rfl, (k8.any.trans k9).2 _ _ htb⟩, fun x hx => by cases hx; exact ⟨on, show m < 2 ^ 70 by omega⟩⟩
      obtain ⟨bh, bv, hat, hB, hbo⟩ := hB
      have k19 : Keep [a] H H9 := k14.trans (k5.trans (k6.trans (k7.any.trans (k8.any.trans k9))))
      have hM9 := vMs.keep hM4 (k5.trans (k6.trans (k7.any.trans (k8.any.trans k9))))
      have ht9 := (k5.trans (k6.trans (k7.any.trans (k8.any.trans k9)))).2 _ _ ht
      clear hM4 k14 k5 k6 k7 k8 k9 hl2 htb D4 D5 D6 D8 ht
      walk_at "r"
      clear hl9
      refine ⟨a, c, ns, rfl, D9, fun mo H10 om lm k10 D10 => ?_⟩
      walk_at "r"
      refine ⟨a, c, ns, rfl, D10, fun nu H11 onu k11 D11 => ?_⟩
      walk_at "r"
      refine ⟨a, c, ns, rfl, D11, fun tt H12 ot lt k12 D12 => ?_⟩
      walk_at "r"
      intro td H13 nd k13 hd
      have k := k10.trans (k11.trans (k12.trans k13.any))
      refine q _ (.chg mo rm bh nu tt) H13 ⟨td, tr, us, bv, rfl, hd, k.2 _ _ ht9, vMs.keep hM9 k, vB.keep hB k⟩ ⟨⟨om, ho, by omega, hbo, onu, ot⟩, ?_⟩ (k19.trans k) (D12.more k13)
      have l1 := ws_le om
      have l2 := ws_le ot
      have l3 := wms_le ho
      have l4 := wn_le10 onu
      have l5 : (wbh bh).length ≤ 21 := by
        cases bh with
        | none => decide
        | some mk => have := wm_le (hbo mk rfl); show (1 :: wm mk).length ≤ 21; rw [List.length_cons]; omega
      have l6 := wn_len 0 rm.length (by omega)
      have l7 : (wl (rm.map wm)).length = (wn rm.length).length + ((rm.map wm).flatten).length := by unfold wl; rw [List.length_append, List.length_map]
      have l8 : (wd (.chg mo rm bh nu tt)).length = (ws mo).length + (wl (rm.map wm)).length + (wbh bh).length + (wn nu).length + (ws tt).length + 1 := by simp [wd]; omega
      omega
def sp_spoilt : Sp := fun vs H Q _ => ∃ (a c : Addr) (ns : List Int) (b : Addr) (ds : List Int), vs = [.ref a, .ref b] ∧ Drw a c ns H ∧ H b = some (.lst (ds.map V.int)) ∧ ds.length ≤ 400000 ∧ b ≠ a ∧ (∀ x ∈ ds, 0 ≤ x) ∧
  ∀ p H' (es : List Int), H p = none → Keep [a] H H' → Drw a c ns H' → H' p = some (.lst (es.map V.int)) → (∀ x ∈ es, 0 ≤ x) → es.length ≤ 1000000 → Q (.ref p) H'
theorem ok__law_spoilt (e : Env K mg A) : FnOk P w K mg base CX0 2 A.f__law_spoilt A.d__law_spoilt ["state", "data"] sp_spoilt := by
  have G__law_next := ok__law_next (P := P) (w := w) (base := base) e
  refine e.F__law_spoilt.ok sc__law_spoilt (fun vs H Q E h => ?_) (fun cdv AA outer s H vs Q E hr h => ?_)
  · obtain ⟨a, c, ns, b, ds, rfl, _⟩ := h
    rfl
  · obtain ⟨a, c, ns, b, ds, rfl, hD, hb, hl, hba, hn, q⟩ := h
    refine ⟨_, (pss_cons (ps_set (i := 2) sc__law_spoilt.nd rfl (Or.inl rfl) (pe_call G__law_next (hr.mono (by omega)) (by rfl) e.m__law_next e.k__law_next e.b__law_next .nil pass0 (pa_cons (pv 0) (pa_cons (pe_op op_add (pe_callB (call_lenLK (K := K)) (by rfl) e.n_len (by decide +kernel) (pa_cons (pv 1) pa_nil)) pe_int) pa_nil))))
    (pss_cons (ps_set (i := 3) sc__law_spoilt.nd rfl (Or.inl rfl) (pe_ix (ix_listK (K := K)) (pe_lst (pa_cons pe_int (pa_cons pe_int (pa_cons pe_int (pa_cons pe_int (pa_cons pe_int (pa_cons pe_int (pa_cons pe_int pa_nil)))))))) (pe_call G__law_next (hr.mono (by omega)) (by rfl) e.m__law_next e.k__law_next e.b__law_next .nil pass0 (pa_cons (pv 0) (pa_cons pe_int pa_nil))) (fun _ _ => rfl)))
    (pss_cons (ps_set (i := 4) sc__law_spoilt.nd rfl (Or.inl rfl) (pe_call G__law_next (hr.mono (by omega)) (by rfl) e.m__law_next e.k__law_next e.b__law_next .nil pass0 (pa_cons (pv 0) (pa_cons pe_int pa_nil))))
    (pss_cons (ps_if (pt_cmpR op_eq (pv 4) pe_int (nomark _)) (pss_one (ps_ret (pe_slice (sl_listK (K := K)) (pv 1) po_none (po_some (pv 2))))) pss_nil)
    (pss_cons (ps_if (pt_cmpR op_eq (pv 4) pe_int (nomark _)) (pss_one (ps_ret (pe_op op_cat (pe_slice (sl_listK (K := K)) (pv 1) po_none (po_some (pv 2))) (pe_slice (sl_listK (K := K)) (pv 1) (po_some (pe_op op_add (pv 2) pe_int)) po_none)))) pss_nil)
    (pss_cons (ps_if (pt_cmpR op_eq (pv 4) pe_int (nomark _)) (pss_one (ps_ret (pe_op op_cat (pe_op op_cat (pe_slice (sl_listK (K := K)) (pv 1) po_none (po_some (pv 2))) (pe_lst (pa_cons (pv 3) pa_nil))) (pe_slice (sl_listK (K := K)) (pv 1) (po_some (pv 2)) po_none)))) pss_nil)
    (pss_cons (ps_if (pt_cmpR op_eq (pv 4) pe_int (nomark _)) (pss_one (ps_ret (pe_op op_cat (pe_op op_cat (pe_slice (sl_listK (K := K)) (pv 1) po_none (po_some (pv 2))) (pe_lst (pa_cons (pv 3) pa_nil))) (pe_slice (sl_listK (K := K)) (pv 1) (po_some (pe_op op_add (pv 2) pe_int)) po_none)))) pss_nil)
    (pss_one (ps_ret (pe_lc (own := [("k", 5)]) (by rfl) sc__law_spoilt.nd (pi_range1 rfl e.n_range (pa_cons (pe_call G__law_next (hr.mono (by omega)) (by rfl) e.m__law_next e.k__law_next e.b__law_next .nil pass0 (pa_cons (pv 0) (pa_cons pe_int pa_nil))) pa_nil)) (blkOk_by (own := [("k", 5)]) (N := nm__law_spoilt) (sc := defScope s__law_spoilt) (by decide +kernel)) (fun _ _ _ _ _ => (pg_name (i := 5) sc__law_spoilt.nd rfl (Or.inl rfl))) (fun _ _ _ _ _ => pts_nil) (fun _ _ _ _ _ => (pe_call G__law_next (hr.mono (by omega)) (by rfl) e.m__law_next e.k__law_next e.b__law_next .nil pass0 (pa_cons (pv 0) (pa_cons (pe_ix (ix_listK (K := K)) (pe_lst (pa_cons pe_int (pa_cons pe_int pa_nil))) (pe_call G__law_next (hr.mono (by omega)) (by rfl) e.m__law_next e.k__law_next e.b__law_next .nil pass0 (pa_cons (pv 0) (pa_cons pe_int pa_nil))) (fun _ _ => rfl)) pa_nil)))))))))))))), ?_⟩
    refine enter (st__law_spoilt _ _) ?_
    walk_at "i"
    walk_at "r"
    rw [List.length_map]
    refine ⟨a, c, ns, _, rfl, hD, by omega, by omega, fun pl H1 pl0 pl1 k1 D1 => ?_⟩
    obtain ⟨p, rfl⟩ := Int.eq_ofNat_of_zero_le pl0
    have hb1 := k1.get hb (by simp [hba])
    walk_at "r"
    intro l7 H2 n7 k2 hl7
    walk_at "r"
    refine ⟨a, c, ns, 7, rfl, D1.more k2, by decide, by decide, fun v H3 v0 v1 k3 D3 => ?_⟩
    have hl73 := k3.get hl7 (by simp [(D1.fre n7).1])
    have hm : ∃ m, atI [V.int 0, V.int 1, V.int 2, V.int 37, V.int 127, V.int 128, V.int 255] v = some (.int m) ∧ 0 ≤ m := by
      have : v = 0 ∨ v = 1 ∨ v = 2 ∨ v = 3 ∨ v = 4 ∨ v = 5 ∨ v = 6 := by omega
      rcases this with rfl | rfl | rfl | rfl | rfl | rfl | rfl <;> exact ⟨_, rfl, by decide⟩
    obtain ⟨m, hat, m0⟩ := hm
    have hb3 := (k2.any.trans k3).get hb1 (by simp [hba])
    walk_at "r"
    refine ⟨a, c, ns, 5, rfl, D3, by decide, by decide, fun pk H4 _ _ k4 D4 => ?_⟩
    have hb4 := k4.get hb3 (by simp [hba])
    have k14 : Keep [a] H H4 := k1.trans (k2.any.trans (k3.trans k4))
    clear hb1 hb3 k1 k2 k3 k4 hl7 hl73 hat D1 D3
    have fr : ∀ p, H4 p = none → H p = none := fun p h => k14.free h (by simp [(D4.fre h).1])
    have c1 : cutV (ds.map V.int) none (some (p : Int)) = (ds.take p).map V.int := by rw [cutV_to, List.map_take]
    have c2 : cutV (ds.map V.int) (some (p : Int)) none = (ds.drop p).map V.int := by rw [cutV_from, List.map_drop]
    have c3 : cutV (ds.map V.int) (some ((p : Int) + 1)) none = (ds.drop (p + 1)).map V.int := by rw [show (p : Int) + 1 = ((p + 1 : Nat) : Int) by omega, cutV_from, List.map_drop]
    have t1 : ∀ x ∈ ds.take p, 0 ≤ x := fun x hx => hn x (List.mem_of_mem_take hx)
    have d1 : ∀ x ∈ ds.drop p, 0 ≤ x := fun x hx => hn x (List.mem_of_mem_drop hx)
    have d2 : ∀ x ∈ ds.drop (p + 1), 0 ≤ x := fun x hx => hn x (List.mem_of_mem_drop hx)
    have lt1 : (ds.take p).length ≤ ds.length := by rw [List.length_take]; omega
    have ld1 : (ds.drop p).length ≤ ds.length := by rw [List.length_drop]; omega
    have ld2 : (ds.drop (p + 1)).length ≤ ds.length := by rw [List.length_drop]; omega
    generalize ds.take p = tk at c1 t1 lt1
    generalize ds.drop p = dp at c2 d1 ld1
    generalize ds.drop (p + 1) = dq at c3 d2 ld2
    walk_at "r"
    refine ite_dec (fun _ => ?_) (fun _ => ?_)
    · walk_at "r"
      intro l H5 nl k5 h5
      rw [c1] at h5
      exact q l H5 tk (fr _ nl) (k14.trans k5.any) (D4.more k5) h5 t1 (by omega)
    walk_at "r"
    refine ite_dec (fun _ => ?_) (fun _ => ?_)
    · walk_at "r"
      intro l H5 nl k5 h5
      rw [c1] at h5
      have hb5 := k5.get hb4 (by simp)
      walk_at "r"
      intro l2 H6 nl2 k6 h6
      rw [c3] at h6
      have h56 := k6.get h5 (by simp)
      walk_at "r"
      intro l3 H7 nl3 k7 h7
      have k57 := k5.trans (k6.trans k7)
      exact q l3 H7 (tk ++ dq) (fr _ ((k5.trans k6).free nl3 (by simp))) (k14.trans k57.any) (D4.more k57) (by rw [h7, List.map_append]) (fun x hx => (List.mem_append.mp hx).elim (t1 x) (d2 x)) (by rw [List.length_append]; omega)
    walk_at "r"
    refine ite_dec (fun _ => ?_) (fun _ => ?_)
    · walk_at "r"
      intro l H5 nl k5 h5
      rw [c1] at h5
      walk_at "r"
      intro l2 H6 nl2 k6 h6
      have h56 := k6.get h5 (by simp)
      walk_at "r"
      intro l3 H7 nl3 k7 h7
      have hb7 := (k5.trans (k6.trans k7)).get hb4 (by simp)
      clear h5 h56 h6
      walk_at "r"
      intro l4 H8 nl4 k8 h8
      rw [c2] at h8
      have h78 := k8.get h7 (by simp)
      walk_at "r"
      intro l5 H9 nl5 k9 h9
      have k58 := k5.trans (k6.trans (k7.trans k8))
      exact q l5 H9 (tk ++ [m] ++ dp) (fr _ (k58.free nl5 (by simp))) (k14.trans (k58.trans k9).any) (D4.more (k58.trans k9)) (by rw [h9]; simp) (fun x hx => by
        rcases List.mem_append.mp hx with hx | hx
        · rcases List.mem_append.mp hx with hx | hx
          · exact t1 x hx
          · rw [List.mem_singleton] at hx; rw [hx]; exact m0
        · exact d1 x hx) (by simp only [List.length_append, List.length_cons, List.length_nil]; omega)
    walk_at "r"
    refine ite_dec (fun _ => ?_) (fun _ => ?_)
    · walk_at "r"
      intro l H5 nl k5 h5
      rw [c1] at h5
      walk_at "r"
      intro l2 H6 nl2 k6 h6
      have h56 := k6.get h5 (by simp)
      walk_at "r"
      intro l3 H7 nl3 k7 h7
      have hb7 := (k5.trans (k6.trans k7)).get hb4 (by simp)
      clear h5 h56 h6
      walk_at "r"
      intro l4 H8 nl4 k8 h8
      rw [c3] at h8
      have h78 := k8.get h7 (by simp)
      walk_at "r"
      intro l5 H9 nl5 k9 h9
      have k58 := k5.trans (k6.trans (k7.trans k8))
      exact q l5 H9 (tk ++ [m] ++ dq) (fr _ (k58.free nl5 (by simp))) (k14.trans (k58.trans k9).any) (D4.more (k58.trans k9)) (by rw [h9]; simp) (fun x hx => by
        rcases List.mem_append.mp hx with hx | hx
        · rcases List.mem_append.mp hx with hx | hx
          · exact t1 x hx
          · rw [List.mem_singleton] at hx; rw [hx]; exact m0
        · exact d2 x hx) (by simp only [List.length_append, List.length_cons, List.length_nil]; omega)
    clear c1 c2 c3 hb4
    walk_at "r"
    refine ⟨a, c, ns, 12, rfl, D4, by decide, by decide, fun x H5 x0 x1 k5 D5 => ?_⟩
    walk_at "r"
    refine lcR1 (by omega) (by omega) (fun D i H' => Keep [a] H5 H' ∧ Drw a c ns H' ∧ ∃ es : List Int, H' D = some (.lst (es.map V.int)) ∧ (∀ x ∈ es, 0 ≤ x) ∧ es.length = i)
      (fun D H6 nD k6 hD => ⟨k6.any, D5.more k6, [], hD, by simp, rfl⟩) ?_ ?_
    · rintro D i H6 nD hi ⟨k6, D6, es, hD6, ho, hl2⟩
      have hDa := D5.fre nD
      walk_at "i"
      walk_at "r"
      intro l2 H7 nl2 k7 h7
      walk_at "r"
      refine ⟨a, c, ns, 2, rfl, D6.more k7, by decide, by decide, fun v H8 v0 v1 k8 D8 => ?_⟩
      have h78 := k8.get h7 (by simp [(D6.fre nl2).1])
      have hm : ∃ m, atI [V.int 3, V.int 256] v = some (.int m) ∧ 0 < m ∧ m < 2 ^ 100 := by
        have : v = 0 ∨ v = 1 := by omega
        rcases this with rfl | rfl <;> exact ⟨_, rfl, by decide, by decide⟩
      obtain ⟨m2, hat2, m20, m21⟩ := hm
      walk_at "r"
      refine ⟨a, c, ns, m2, rfl, D8, m20, m21, fun y H9 y0 y1 k9 D9 => ?_⟩
      have k79 : Keep [a] H6 H9 := k7.any.trans (k8.trans k9)
      have hD9 := k79.get hD6 (by simp [hDa.1])
      walk_at "r"
      intro H10 k10 h10
      refine ⟨(k6.trans k79).mut nD k10, D9.mut k10 hDa, es ++ [y], by rw [h10, List.map_append]; rfl, ?_, by rw [List.length_append, hl2]; rfl⟩
      intro z hz
      rcases List.mem_append.mp hz with hz | hz
      · exact ho z hz
      · rw [List.mem_singleton] at hz; rw [hz]; exact y0
    · rintro D H6 nD ⟨k6, D6, es, hD6, ho, hl2⟩
      walk_at "r"
      exact q D H6 es (fr _ (k5.free nD (by simp [(D5.fre nD).1]))) (k14.trans (k5.trans k6)) D6 hD6 ho (by omega)
end My

end
section
set_option maxHeartbeats 4000000
/-! a reader never stands behind the end -/
namespace My
open W PySem L2
section
variable {α β : Type} {ds : List Int}
def Fw (ds : List Int) (f : Nat → Option (α × Nat)) : Prop := ∀ p a q, p ≤ ds.length → f p = some (a, q) → q ≤ ds.length
theorem fw_bind {f : Nat → Option (α × Nat)} {g : α → Nat → Option (β × Nat)} (h : Fw ds f) (k : ∀ a, Fw ds (g a)) : Fw ds (fun p => (f p).bind fun z => g z.1 z.2) := fun p b q hp e => by
  cases hf : f p with
  | none => simp only [hf] at e; cases e
  | some z =>
    simp only [hf, Option.bind_some] at e
    exact k z.1 z.2 b q (h p z.1 z.2 hp hf) e
theorem fw_map {f : Nat → Option (α × Nat)} {g : α → β} (h : Fw ds f) : Fw ds (fun p => (f p).map fun z => (g z.1, z.2)) := fun p b q hp e => by
  cases hf : f p with
  | none => simp only [hf] at e; cases e
  | some z =>
    simp only [hf, Option.map_some, Option.some.injEq, Prod.mk.injEq] at e
    rw [← e.2]
    exact h p z.1 z.2 hp hf
theorem fw_ret {a : α} : Fw ds (fun p => some (a, p)) := fun p b q hp e => by cases e; exact hp
theorem fw_no : Fw ds (fun _ => (none : Option (α × Nat))) := fun p b q hp e => by cases e
theorem fw_ite {c : Prop} [Decidable c] {f g : Nat → Option (α × Nat)} (h : Fw ds f) (k : Fw ds g) : Fw ds (fun p => if c then f p else g p) := by
  by_cases hc : c
  · simp only [if_pos hc]; exact h
  · simp only [if_neg hc]; exact k
theorem fw_if {f : Nat → Option (α × Nat)} {c : α → Prop} [DecidablePred c] (h : Fw ds f) : Fw ds (fun p => (f p).bind fun z => if c z.1 then some z else none) := fun p b q hp e => by
  cases hf : f p with
  | none => simp only [hf] at e; cases e
  | some z =>
    simp only [hf, Option.bind_some] at e
    split at e
    · cases e; exact h p _ _ hp hf
    · cases e
theorem fw_ifn {f : Nat → Option (α × Nat)} {c : α → Prop} [DecidablePred c] (h : Fw ds f) : Fw ds (fun p => (f p).bind fun z => if c z.1 then none else some z) := fun p b q hp e => by
  cases hf : f p with
  | none => simp only [hf] at e; cases e
  | some z =>
    simp only [hf, Option.bind_some] at e
    split at e
    · cases e
    · cases e; exact h p _ _ hp hf
theorem fw_num : Fw ds (pnum ds) := fun p a q hp e => (pnum_at e hp).2
theorem fw_cnt : Fw ds (pcnt ds) := fun p a q hp e => by have := (pcnt_le e).1; omega
theorem fw_byte : Fw ds (pbyte ds) := fun p a q hp e => by
  unfold pbyte at e
  split at e
  · cases e; omega
  · cases e
theorem fw_ch : Fw ds (pch ds) := fw_ifn (c := fun a => 2 ≤ a) fw_byte
theorem fw_sig : Fw ds (psig ds) := fw_if (c := fun a => okch a = true) fw_num
theorem fw_many {f : Nat → Option (α × Nat)} (h : Fw ds f) : ∀ k, Fw ds (pmany f k)
  | 0 => fw_ret
  | k + 1 => fw_bind h fun a => fw_map (fw_many h k)
theorem fw_list {P : Rdr α} (h : Fw ds (P ds)) : Fw ds (plist P ds) := fw_bind fw_cnt fun n => fw_many h n
theorem fw_str : Fw ds (pstr ds) := fw_list fw_sig
theorem fw_mk : Fw ds (pmk ds) := fw_bind fw_num fun a => fw_map fw_num
theorem fw_bh : Fw ds (pbh ds) := fw_bind fw_ch fun a => fw_ite (c := a = 1) (fw_map fw_mk) fw_ret
theorem fw_dd : Fw ds (pdd ds) := fw_bind fw_ch fun a => fw_ite (c := a = 1) (fw_map (g := Dd.back) fw_num) (fw_bind fw_str fun m => fw_bind (fw_list fw_mk) fun rm => fw_bind fw_bh fun bh => fw_bind fw_num fun n => fw_map (g := fun t => Dd.chg m rm bh n t) fw_str)
theorem fw_tr : Fw ds (ptr ds) := fw_bind fw_num fun a => fw_bind fw_num fun b => fw_map fw_dd
theorem fw_trs : Fw ds (ptrs ds) := fw_list fw_tr
theorem fw_pk : Fw ds (ppk ds) := fw_bind fw_byte fun a => fw_ite (c := a = 1) fw_trs fw_no
end
end My

end
section
set_option maxHeartbeats 4000000
local macro_rules | `(tactic| walk_at "k") => `(tactic| first
  | assumption
  | exact W.Keep.trans (by assumption) (by assumption)
  | exact And.intro (by grind [W.Keep, W.Kp]) (by grind [W.Keep, W.Kt])
  | grind [W.Keep, W.Kp])
local macro_rules | `(tactic| walk_at "f") => `(tactic| first
  | assumption
  | exact L2.SqL.of (by assumption)
  | exact L2.SqT.of (by assumption)
  | exact L2.SqL.of L2.upd_same
  | exact L2.SqT.of L2.upd_same
  | exact L2.upd_same
  | exact W.carryL (by assumption) (by assumption)
  | exact W.carryL (by assumption) (by walk_at "k")
  | exact W.carryT (by assumption) (by walk_at "k")
  | exact W.carry (by assumption) (by grind [W.Keep, W.Kp])
  | exact L2.SqL.of (W.carry (by assumption) (by grind [W.Keep, W.Kp]))
  | exact L2.SqT.of (W.carry (by assumption) (by grind [W.Keep, W.Kp])))
local macro_rules | `(tactic| walk_at "a") => `(tactic| first
  | assumption
  | rfl)
local macro_rules | `(tactic| walk_at "n") => `(tactic| first
  | assumption
  | exact Nat.zero_le _
  | decide
  | (simp only [List.length_cons, List.length_nil]; decide)
  | omega
  | (simp only [PySem.sizeLine_eq]; omega)
  | (simp only [List.length_map, List.length_append, List.length_cons, List.length_nil, PySem.sizeLine_eq]; omega)
  | (simp only [List.length_map, List.length_append, List.length_cons, List.length_nil, List.length_take, List.length_drop, PySem.sizeLine_eq]; omega)
  | (simp only [List.length_map, List.length_append, List.length_cons, List.length_nil, PySem.sizeLine_eq] at *; omega))
local macro_rules | `(tactic| walk_at "c") => `(tactic| first
  | assumption
  | decide
  | exact And.intro (by decide) (by decide)
  | exact Or.inr (And.intro (by decide) (by decide))
  | exact Or.inl (And.intro (by decide) (by decide))
  | exact And.intro (by decide) (And.intro (by decide) (by decide))
  | exact (show (0 : Int) < _ by decide)
  | exact And.intro (by omega) (by omega)
  | exact Or.inl (And.intro (by omega) (by omega))
  | exact Or.inr (And.intro (by omega) (by omega))
  | exact (show (0 : Int) < _ by omega))
local macro_rules | `(tactic| walk_at "v") => `(tactic| with_reducible first
  | refine W.v0 ?_ | refine W.v1 ?_ | refine W.v2 ?_ | refine W.v3 ?_ | refine W.v4 ?_ | refine W.v5 ?_ | refine W.v6 ?_ | refine W.v7 ?_ | refine W.v8 ?_
  | refine W.v9 ?_ | refine W.v10 ?_ | refine W.v11 ?_ | refine W.v12 ?_ | refine W.v13 ?_ | refine W.v14 ?_ | refine W.v15 ?_ | refine W.v16 ?_ | refine W.v17 ?_
  | refine W.g0 ?_ | refine W.g1 ?_ | refine W.g2 ?_ | refine W.g3 ?_ | refine W.g4 ?_ | refine W.g5 ?_ | refine W.g6 ?_ | refine W.g7 ?_ | refine W.g8 ?_
  | refine W.g9 ?_ | refine W.g10 ?_ | refine W.g11 ?_ | refine W.g12 ?_ | refine W.g13 ?_ | refine W.g14 ?_ | refine W.g15 ?_)
local macro_rules | `(tactic| walk_at "e") => `(tactic| with_reducible first
  | refine W.e_c ?_ | refine W.e_op ?_ | refine W.s_seq ?_ | refine W.s_asg ?_ | refine W.e_CB ?_ | refine W.a_cons ?_ | refine W.a_nil ?_ | refine W.e_call ?_
  | refine W.t_test ?_ | refine W.w_B ?_ | refine W.s_if ?_ | refine W.s_ret ?_ | refine W.s_drop ?_ | refine W.e_un ?_ | refine W.e_fld ?_ | refine W.s_fld ?_
  | refine W.e_meth ?_ | refine W.e_if ?_ | refine W.e_lst ?_ | refine W.e_tup ?_ | refine W.e_sl ?_ | refine W.o_none ?_ | refine W.o_some ?_ | refine W.w_part ?_
  | refine W.e_bm ?_ | refine W.e_bm0 ?_ | refine W.t_B ?_ | refine W.t_and ?_ | refine W.t_or ?_ | refine W.t_not ?_ | refine W.e_andV ?_ | refine W.e_orV ?_ | refine W.e_notV ?_ | refine W.w_BV ?_ | refine W.e_chain ?_
  | refine W.s_aug ?_ | refine W.s_augS ?_ | refine W.s_next ?_ | refine W.s_brk ?_ | refine W.s_cont ?_ | refine W.s_retN ?_ | refine W.s_fa ?_ | refine W.e_make ?_ | refine W.w_make ?_
  | refine W.w_I0 ?_ | refine W.w_U ?_ | refine W.w_aug ?_ | refine W.w_eqI ?_ | refine W.w_neI ?_ | refine W.w_eqS ?_ | refine W.w_neS ?_ | refine W.w_eqB ?_ | refine W.w_neB ?_
  | refine W.w_int ?_ | refine W.w_intB ?_ | refine W.w_min ?_ | refine W.w_max ?_ | refine W.w_isN ?_ | refine W.w_isI ?_ | refine W.w_isS ?_ | refine W.w_isB ?_ | refine W.w_isR ?_
  | refine W.w_notN ?_ | refine W.w_notI ?_ | refine W.w_notR ?_ | refine W.w_notS ?_ | refine W.w_eqNI ?_ | refine W.w_neNI ?_ | refine W.w_eqN ?_ | refine W.w_neN ?_
  | refine W.s_forL ?_ | refine W.s_forT ?_ | refine W.s_forS ?_ | refine W.s_forR1 ?_ | refine W.s_forR2 ?_ | refine W.s_forR3 ?_ | refine W.s_forZ ?_ | refine W.s_forE ?_
  | refine W.e_lcL ?_ | refine W.e_lcT ?_ | refine W.w_ord ?_ | refine W.e_lcR1 ?_ | refine W.e_lcR2 ?_ | refine W.e_lcZ ?_ | refine W.e_lcS ?_ | refine W.t_yes ?_ | refine W.w_gcons ?_ | refine W.w_gnil ?_ | refine W.s_par ?_ | refine W.w_par ?_ | refine W.g_sub ?_ | refine W.e_m1 ?_ | refine W.w_strR ?_ | refine W.w_rAdd ?_ | refine W.w_rSub ?_ | refine W.s_raise ?_ | refine W.s_try ?_ | refine W.e_methS ?_)
local macro_rules | `(tactic| walk_at "w") => `(tactic| first
  | ((with_reducible refine' W.w_I ?wh ?wq); (case wh => walk_at "c"))
  | ((with_reducible refine' W.w_ixL (n := 0) ?wh ?we ?wq); (case wh => walk_at "f"); (case we => walk_at "a"))
  | ((with_reducible refine' W.w_ixT (n := 0) ?wh ?we ?wq); (case wh => walk_at "f"); (case we => walk_at "a"))
  | ((with_reducible refine' W.w_lenL ?wh ?wq); (case wh => walk_at "f"))
  | ((with_reducible refine' W.w_lenT ?wh ?wq); (case wh => walk_at "f"))
  | ((with_reducible refine' W.w_lenS ?wh ?wq); (case wh => walk_at "n"))
  | ((with_reducible refine' W.w_app ?wh ?we ?wq); (case wh => walk_at "f"); (case we => walk_at "n"))
  | ((with_reducible refine' W.w_meth ?wh ?we ?wq); (case wh => walk_at "f"); (case we => first | assumption | rfl))
  | ((with_reducible refine' W.w_ixLTl ?wh ?we ?wq); (case wh => walk_at "f"); (case we => walk_at "a"))
  | ((with_reducible refine' W.w_ixLTt ?wh ?we ?wq); (case wh => walk_at "f"); (case we => walk_at "a"))
  | ((with_reducible refine' W.w_addS ?wh ?wq); (case wh => walk_at "n"))
  | ((with_reducible refine' W.w_set ?wh ?we ?wq); (case wh => walk_at "f"); (case we => walk_at "a"))
  | ((with_reducible refine' W.w_tup ?wh ?we ?wq); (case wh => walk_at "f"); (case we => first | assumption | rfl))
  | ((with_reducible refine' W.w_slS ?wh ?wq); (case wh => walk_at "n"))
  | ((with_reducible refine' W.w_rApp ?wh ?we ?wq); (case wh => walk_at "f"); (case we => walk_at "n"))
  | ((with_reducible refine' W.w_newL ?wh ?wq); (case wh => walk_at "n"))
  | ((with_reducible refine' W.w_newT ?wh ?wq); (case wh => walk_at "n"))
  | ((with_reducible refine' W.w_listL ?wh ?wq); (case wh => walk_at "f"))
  | ((with_reducible refine' W.w_tupL ?wh ?wq); (case wh => walk_at "f"))
  | ((with_reducible refine' W.w_slL ?wh ?wq); (case wh => walk_at "f"))
  | ((with_reducible refine' W.w_cat ?wh ?wf ?we ?wq); (case wh => walk_at "f"); (case wf => walk_at "f"); (case we => walk_at "n"))
  | ((with_reducible refine' W.w_catT ?wh ?wf ?wx ?wy ?we ?wq); (case wh => walk_at "f"); (case wf => walk_at "f"); (case wx => exact List.cons_ne_nil _ _); (case wy => exact List.cons_ne_nil _ _); (case we => walk_at "n"))
  | ((with_reducible refine' W.w_ext ?wh ?wf ?we ?wq); (case wh => walk_at "f"); (case wf => walk_at "f"); (case we => walk_at "n"))
  | ((with_reducible refine' W.w_recv ?wh ?wq); (case wh => walk_at "f"))
  | ((with_reducible refine' W.w_isi1 ?wh ?we ?wq); (case wh => assumption); (case we => decide +kernel))
  | ((with_reducible refine' W.w_isi0 ?wh ?we ?wq); (case wh => assumption); (case we => decide +kernel))
  | ((with_reducible refine' W.w_isiT10 ?wh ?wf ?we ?wg ?wq); (case wh => assumption); (case wf => walk_at "f"); (case we => decide +kernel); (case wg => decide +kernel))
  | ((with_reducible refine' W.w_isiT01 ?wh ?wf ?we ?wg ?wq); (case wh => assumption); (case wf => walk_at "f"); (case we => decide +kernel); (case wg => decide +kernel))
  | ((with_reducible refine' W.w_isiT00 ?wh ?wf ?we ?wg ?wq); (case wh => assumption); (case wf => walk_at "f"); (case we => decide +kernel); (case wg => decide +kernel))
  | ((with_reducible refine' W.w_ins ?wh ?we ?wf ?wq); (case wh => walk_at "f"); (case we => walk_at "n"); (case wf => walk_at "c"))
  | ((with_reducible refine' W.w_unl ?wh ?we ?wq); (case wh => walk_at "f"); (case we => first | assumption | rfl))
  | ((with_reducible refine' W.ite_T ?_))
  | ((with_reducible refine' W.ite_F ?_))
  | ((with_reducible refine' W.ite_nT ?_))
  | ((with_reducible refine' W.ite_nF ?_))
  | ((with_reducible refine' W.ite_self ?_))
  | ((with_reducible refine' W.ite_nself ?_))
  | ((with_reducible refine' W.ite_tf ?_))
  | ((with_reducible refine' W.ite_ft ?_))
  | ((with_reducible refine' W.ite_ntf ?_))
  | ((with_reducible refine' W.ite_nft ?_))
  | ((with_reducible refine' And.intro ?wl ?wq); (case wl => rfl)))
local macro_rules | `(tactic| walk_at "i") => `(tactic| try (dsimp only [L2.cxOf, L2.wipe, List.map, List.set]))
local macro_rules | `(tactic| walk_at "s") => `(tactic| first | walk_at "v" | walk_at "e" | walk_at "w")
local macro_rules | `(tactic| walk_at "r") => `(tactic| repeat walk_at "s")

namespace My
open PySem L2 W
local macro_rules | `(tactic| walk_at "w") => `(tactic| first
  | ((with_reducible refine' W.w_getF ?wh ?wc ?wn ?wl ?wq); (case wh => walk_at "f"); (case wc => exact Env.c_Reader (by assumption)); (case wn => first | exact Env.x_Reader_data (by assumption) | exact Env.x_Reader_at (by assumption)); (case wl => first | exact lk1 | exact lk2)))
variable {P : Program} {w : World} {K : PySem.W.Frag} {mg : Str → Option Value} {base : Heap} {A : Adr}
/-! what is told of bytes of a kind, and what the law's own reader tells -/
def pk (k : Int) (ds : List Int) : Option (PyData × Nat) :=
  if k = 0 then (pnum ds 0).map fun z => (.int (z.1 : Int), z.2) else if k = 1 then (pstr ds 0).map fun z => (.str (tx z.1), z.2) else if k = 2 then (pdd ds 0).map fun z => (pdD z.1, z.2) else
  if k = 3 then (ptrs ds 0).map fun z => (pdTl z.1, z.2) else (ppk ds 0).map fun z => (pdTl z.1, z.2)
def vDa (H : Hp) (d : PyData) (v : V) : Prop := Da H d v
theorem fw_pkk {k : Int} {ds : List Int} {d : PyData} {q : Nat} (h : pk k ds = some (d, q)) : q ≤ ds.length := by
  unfold pk at h
  split at h
  · exact fw_map (f := pnum ds) (g := fun n => PyData.int (n : Int)) fw_num 0 _ _ (Nat.zero_le _) h
  split at h
  · exact fw_map (f := pstr ds) (g := fun n => PyData.str (tx n)) fw_str 0 _ _ (Nat.zero_le _) h
  split at h
  · exact fw_map (f := pdd ds) (g := pdD) fw_dd 0 _ _ (Nat.zero_le _) h
  split at h
  · exact fw_map (f := ptrs ds) (g := pdTl) fw_trs 0 _ _ (Nat.zero_le _) h
  · exact fw_map (f := ppk ds) (g := pdTl) fw_pk 0 _ _ (Nat.zero_le _) h
def sp_told : Sp := fun vs H Q _ => ∃ (k : Int) (a : Addr) (ds : List Int), vs = [.int k, .ref a] ∧ 0 ≤ k ∧ k ≤ 4 ∧ H a = some (.lst (ds.map V.int)) ∧ ds.length ≤ 1000000 ∧ (∀ b ∈ ds, 0 ≤ b) ∧ ∀ v H', Keep [] H H' → oV vDa H' (pk k ds) v → Q v H'
theorem ok__law_own (e : Env K mg A) : FnOk P w K mg base CX0 6 A.f__law_own A.d__law_own ["kind", "data"] sp_told := by
  have G__law_read_number := ok__law_read_number (P := P) (w := w) (base := base) e
  have G__law_read_text := ok__law_read_text (P := P) (w := w) (base := base) e
  have G__law_read_deed := ok__law_read_deed (P := P) (w := w) (base := base) e
  have G__law_read_triples := ok__law_read_triples (P := P) (w := w) (base := base) e
  have G__law_read_packet := ok__law_read_packet (P := P) (w := w) (base := base) e
  refine e.F__law_own.ok sc__law_own (fun vs H Q E h => ?_) (fun cdv AA outer s H vs Q E hr h => ?_)
  · obtain ⟨k, a, ds, rfl, _⟩ := h
    rfl
  · obtain ⟨k, a, ds, rfl, k0, k4, ha, hl, hn, q⟩ := h
    refine ⟨_, (pss_cons (ps_if (pt_cmpR op_eq (pv 0) pe_int (nomark _)) (pss_one (ps_ret (pe_call G__law_read_number (hr.mono (by omega)) (by rfl) e.m__law_read_number e.k__law_read_number e.b__law_read_number .nil pass0 (pa_cons (pv 1) (pa_cons pe_int pa_nil))))) pss_nil)
    (pss_cons (ps_if (pt_cmpR op_eq (pv 0) pe_int (nomark _)) (pss_one (ps_ret (pe_call G__law_read_text (hr.mono (by omega)) (by rfl) e.m__law_read_text e.k__law_read_text e.b__law_read_text .nil pass0 (pa_cons (pv 1) (pa_cons pe_int pa_nil))))) pss_nil)
    (pss_cons (ps_if (pt_cmpR op_eq (pv 0) pe_int (nomark _)) (pss_one (ps_ret (pe_call G__law_read_deed (hr.mono (by omega)) (by rfl) e.m__law_read_deed e.k__law_read_deed e.b__law_read_deed .nil pass0 (pa_cons (pv 1) (pa_cons pe_int pa_nil))))) pss_nil)
    (pss_one (ps_ret (pe_ifExp (pt_cmpR op_eq (pv 0) pe_int (nomark _)) (pe_call G__law_read_triples (hr.mono (by omega)) (by rfl) e.m__law_read_triples e.k__law_read_triples e.b__law_read_triples .nil pass0 (pa_cons (pv 1) (pa_cons pe_int pa_nil))) (pe_call G__law_read_packet (hr.mono (by omega)) (by rfl) e.m__law_read_packet e.k__law_read_packet e.b__law_read_packet .nil pass0 (pa_cons (pv 1) (pa_cons pe_int pa_nil))))))))), ?_⟩
    refine enter (st__law_own _ _) ?_
    walk_at "i"
    walk_at "r"
    unfold pk at q
    refine ite_dec (fun h => ?_) (fun h => ?_)
    · rw [if_pos h] at q
      walk_at "r"
      refine ⟨a, ds, 0, rfl, ha, hl, hn, fun v H1 k1 hv => q v H1 k1 ?_⟩
      cases hz : pnum ds 0 with
      | none => rw [hz] at hv; exact hv
      | some z => rw [hz] at hv; obtain ⟨t, u, rfl, ht, rfl⟩ := hv; exact ⟨t, _, rfl, ht, Da.int⟩
    rw [if_neg h] at q
    walk_at "r"
    refine ite_dec (fun h => ?_) (fun h => ?_)
    · rw [if_pos h] at q
      walk_at "r"
      refine ⟨a, ds, 0, rfl, ha, hl, hn, fun v H1 k1 hv => q v H1 k1 ?_⟩
      cases hz : pstr ds 0 with
      | none => rw [hz] at hv; exact hv
      | some z => rw [hz] at hv; obtain ⟨t, u, rfl, ht, rfl⟩ := hv; exact ⟨t, _, rfl, ht, Da.str⟩
    rw [if_neg h] at q
    walk_at "r"
    refine ite_dec (fun h => ?_) (fun h => ?_)
    · rw [if_pos h] at q
      walk_at "r"
      refine ⟨a, ds, 0, rfl, ha, hl, hn, fun v H1 k1 hv => q v H1 k1 ?_⟩
      cases hz : pdd ds 0 with
      | none => rw [hz] at hv; exact hv
      | some z => rw [hz] at hv; obtain ⟨t, u, rfl, ht, hu⟩ := hv; exact ⟨t, _, rfl, ht, vD.da hu⟩
    rw [if_neg h] at q
    walk_at "r"
    refine ite_dec (fun h => ?_) (fun h => ?_)
    · rw [if_pos h] at q
      walk_at "r"
      refine ⟨a, ds, 0, rfl, ha, hl, hn, fun v H1 k1 hv => q v H1 k1 ?_⟩
      cases hz : ptrs ds 0 with
      | none => rw [hz] at hv; exact hv
      | some z => rw [hz] at hv; obtain ⟨t, u, rfl, ht, hu⟩ := hv; exact ⟨t, _, rfl, ht, vTl.da hu⟩
    · rw [if_neg h] at q
      walk_at "r"
      refine ⟨a, ds, 0, rfl, ha, hl, hn, fun v H1 k1 hv => q v H1 k1 ?_⟩
      cases hz : ppk ds 0 with
      | none => rw [hz] at hv; exact hv
      | some z => rw [hz] at hv; obtain ⟨t, u, rfl, ht, hu⟩ := hv; exact ⟨t, _, rfl, ht, vTl.da hu⟩
theorem ok__law_told (e : Env K mg A) : FnOk P w K mg base CX0 9 A.f__law_told A.d__law_told ["kind", "data"] sp_told := by
  have G_Reader___init__ := ok_Reader___init__ (P := P) (w := w) (base := base) e
  have G_Reader_read_number := ok_Reader_read_number (P := P) (w := w) (base := base) e
  have G_Reader_read_string := ok_Reader_read_string (P := P) (w := w) (base := base) e
  have G_Reader_read_deed := ok_Reader_read_deed (P := P) (w := w) (base := base) e
  have G_Reader_read_triples := ok_Reader_read_triples (P := P) (w := w) (base := base) e
  have G_Reader_read_packet := ok_Reader_read_packet (P := P) (w := w) (base := base) e
  have G_Reader_end := ok_Reader_end (P := P) (w := w) (base := base) e
  refine e.F__law_told.ok sc__law_told (fun vs H Q E h => ?_) (fun cdv AA outer s H vs Q E hr h => ?_)
  · obtain ⟨k, a, ds, rfl, _⟩ := h
    rfl
  · obtain ⟨k, a, ds, rfl, k0, k4, ha, hl, hn, q⟩ := h
    refine ⟨_, (pss_cons (ps_set (i := 2) sc__law_told.nd rfl (Or.inl rfl) (pe_make e.M_Reader G_Reader___init__ (hr.mono (by omega)) (by rfl) e.m_Reader e.b_Reader___init__ .nil pass0 (pa_cons (pe_callTy (call_listLK (K := K)) (by rfl) e.n_list (by decide +kernel) (pa_cons (pv 1) pa_nil)) pa_nil)))
    (Evl.pss_cut (ps_try1 (K := K) rfl rfl ⟨by rfl, by decide, .inl e.m_DamagedPacket⟩ takes0 (fun W pn xe tk po => (pss_one (ps_if (pt_cmpR op_eq (pv 0) pe_int (nomark _)) (pss_one (ps_set (i := 3) sc__law_told.nd rfl (Or.inl rfl) (pe_meth0S (pv 2) e.c_Reader e.h_Reader_read_number G_Reader_read_number (hr.mono (by omega)) e.b_Reader_read_number (fun σ => passAt tk σ)))) (pss_one (ps_if (pt_cmpR op_eq (pv 0) pe_int (nomark _)) (pss_one (ps_set (i := 3) sc__law_told.nd rfl (Or.inl rfl) (pe_meth0S (pv 2) e.c_Reader e.h_Reader_read_string G_Reader_read_string (hr.mono (by omega)) e.b_Reader_read_string (fun σ => passAt tk σ)))) (pss_one (ps_if (pt_cmpR op_eq (pv 0) pe_int (nomark _)) (pss_one (ps_set (i := 3) sc__law_told.nd rfl (Or.inl rfl) (pe_meth0S (pv 2) e.c_Reader e.h_Reader_read_deed G_Reader_read_deed (hr.mono (by omega)) e.b_Reader_read_deed (fun σ => passAt tk σ)))) (pss_one (ps_if (pt_cmpR op_eq (pv 0) pe_int (nomark _)) (pss_one (ps_set (i := 3) sc__law_told.nd rfl (Or.inl rfl) (pe_meth0S (pv 2) e.c_Reader e.h_Reader_read_triples G_Reader_read_triples (hr.mono (by omega)) e.b_Reader_read_triples (fun σ => passAt tk σ)))) (pss_one (ps_set (i := 3) sc__law_told.nd rfl (Or.inl rfl) (pe_meth0S (pv 2) e.c_Reader e.h_Reader_read_packet G_Reader_read_packet (hr.mono (by omega)) e.b_Reader_read_packet (fun σ => passAt tk σ))))))))))))) (fun a oe cls d pn _ _ => (pss_one (ps_ret pe_non))))
    (pss_cons (ps_set (i := 4) sc__law_told.nd rfl (Or.inl rfl) (pe_fldK (K := K) (pv 2) rfl))
    (pss_cons (ps_try1 (K := K) rfl rfl ⟨by rfl, by decide, .inl e.m_DamagedPacket⟩ takes0 (fun W pn xe tk po => (pss_cons (ps_expr (pe_meth0S (pv 2) e.c_Reader e.h_Reader_end G_Reader_end (hr.mono (by omega)) e.b_Reader_end (fun σ => passAt tk σ)))
    (pss_one (ps_set (i := 5) sc__law_told.nd rfl (Or.inl rfl) pe_bl)))) (fun a oe cls d pn _ _ => (pss_one (ps_set (i := 5) sc__law_told.nd rfl (Or.inl rfl) pe_bl))))
    (pss_one (ps_ret (pe_ifExp (pt_cmpR op_eq (pv 5) (pe_cmpR op_eq (pv 4) (pe_callB (call_lenLK (K := K)) (by rfl) e.n_len (by decide +kernel) (pa_cons (pv 1) pa_nil)) (nomark _)) (nomark _)) (pe_tup (pa_cons (pv 3) (pa_cons (pv 4) pa_nil))) (pe_tup (pa_cons pe_str (pa_cons (pv 4) pa_nil)))))))))), ?_⟩
    refine enter (st__law_told _ _) ?_
    walk_at "i"
    walk_at "r"
    intro l H1 nl k1 hl1
    walk_at "r"
    intro r dx H2 nr k2 hr2
    refine ⟨r, dx, l, ds, rfl, hr2, k2.get hl1 (by simp), fun d H3 nd k3 R3 => ⟨rfl, ?_⟩⟩
    have nr0 : H r = none := k1.free nr (by simp)
    have k13 : Keep [] H H3 := k1.trans (k2.mut nr k3)
    have ha3 := k13.get ha (by simp)
    have nra : a ≠ r := ne_of_none ha nr0
    clear k1 k2 k3 hl1 hr2
    walk_at "r"
    refine s_cut (fun σ' H' => ∃ vf dd p, σ' = [some (.int k), some (.ref a), some (.ref r), some vf, none, none] ∧ Keep [] H H' ∧ RdAt A.C_Reader H' r dx d ds p ∧ Da H' dd vf ∧ pk k ds = some (dd, p)) ?_ ?_
    · have hr3 := R3.1
      have fail : pk k ds = none → ∀ H', Keep [r] H3 H' → Q .non H' := fun h H' k => q _ H' (k13.mut nr0 k) (oV_no h)
      walk_at "r"
      unfold pk at fail ⊢
      refine ite_dec (fun h => ?_) (fun h => ?_)
      · simp only [if_pos h] at fail ⊢
        have hlk : (rdF d 0).lookup ("read_number" : Str) = none := lkn (by decide +kernel) (by decide +kernel)
        walk_at "r"
        refine ⟨r, dx, d, ds, 0, rfl, R3, hl, fun x p hx v H4 k4 R4 hv => ?_, fun hx H4 k4 => w_only (exm_D e) (fun x _ => ?_)⟩
        · cases hv
          walk_at "r"
          exact ⟨_, _, p, rfl, k13.mut nr0 k4, R4, Da.int, by rw [hx]; rfl⟩
        · walk_at "r"
          exact fail (by rw [hx]; rfl) H4 k4
      simp only [if_neg h] at fail ⊢
      walk_at "r"
      refine ite_dec (fun h => ?_) (fun h => ?_)
      · simp only [if_pos h] at fail ⊢
        have hlk : (rdF d 0).lookup ("read_string" : Str) = none := lkn (by decide +kernel) (by decide +kernel)
        walk_at "r"
        refine ⟨r, dx, d, ds, 0, rfl, R3, hl, fun x p hx v H4 k4 R4 hv => ?_, fun hx H4 k4 => w_only (exm_D e) (fun x _ => ?_)⟩
        · cases hv
          walk_at "r"
          exact ⟨_, _, p, rfl, k13.mut nr0 k4, R4, Da.str, by rw [hx]; rfl⟩
        · walk_at "r"
          exact fail (by rw [hx]; rfl) H4 k4
      simp only [if_neg h] at fail ⊢
      walk_at "r"
      refine ite_dec (fun h => ?_) (fun h => ?_)
      · simp only [if_pos h] at fail ⊢
        have hlk : (rdF d 0).lookup ("read_deed" : Str) = none := lkn (by decide +kernel) (by decide +kernel)
        walk_at "r"
        refine ⟨r, dx, d, ds, 0, rfl, R3, hl, fun x p hx v H4 k4 R4 hv => ?_, fun hx H4 k4 => w_only (exm_D e) (fun x _ => ?_)⟩
        · walk_at "r"
          exact ⟨_, _, p, rfl, k13.mut nr0 k4, R4, vD.da hv, by rw [hx]; rfl⟩
        · walk_at "r"
          exact fail (by rw [hx]; rfl) H4 k4
      simp only [if_neg h] at fail ⊢
      walk_at "r"
      refine ite_dec (fun h => ?_) (fun h => ?_)
      · simp only [if_pos h] at fail ⊢
        have hlk : (rdF d 0).lookup ("read_triples" : Str) = none := lkn (by decide +kernel) (by decide +kernel)
        walk_at "r"
        refine ⟨r, dx, d, ds, 0, rfl, R3, hl, fun x p hx v H4 k4 R4 hv => ?_, fun hx H4 k4 => w_only (exm_D e) (fun x _ => ?_)⟩
        · walk_at "r"
          exact ⟨_, _, p, rfl, k13.mut nr0 k4, R4, vTl.da hv, by rw [hx]; rfl⟩
        · walk_at "r"
          exact fail (by rw [hx]; rfl) H4 k4
      · simp only [if_neg h] at fail ⊢
        have hlk : (rdF d 0).lookup ("read_packet" : Str) = none := lkn (by decide +kernel) (by decide +kernel)
        walk_at "r"
        refine ⟨r, dx, d, ds, 0, rfl, R3, hl, fun x p hx v H4 k4 R4 hv => ?_, fun hx H4 k4 => w_only (exm_D e) (fun x _ => ?_)⟩
        · walk_at "r"
          exact ⟨_, _, p, rfl, k13.mut nr0 k4, R4, vTl.da hv, by rw [hx]; rfl⟩
        · walk_at "r"
          exact fail (by rw [hx]; rfl) H4 k4
    · rintro σ' H4 ⟨vf, dd, p, rfl, k4, R4, hv, hpk⟩
      have hr4 := R4.1
      have hpl := fw_pkk hpk
      have ha4 := k4.get ha (by simp)
      have hlk : (rdF d p).lookup ("end" : Str) = none := lkn (by decide +kernel) (by decide +kernel)
      clear ha3 k13
      walk_at "r"
      refine ⟨r, dx, d, ds, p, rfl, R4, fun he => ?_, fun he => ?_⟩
      · walk_at "r"
        rw [List.length_map, decide_eq_true (show (p : Int) = (ds.length : Int) by omega)]
        walk_at "r"
        intro t H5 nt k5 ht
        walk_at "r"
        exact q _ H5 (k4.trans k5) (oV_yes (a := dd) hpk ht (Da.mono k5.same _ _ hv))
      · refine w_only (exm_D e) (fun x _ => ?_)
        walk_at "r"
        rw [List.length_map, decide_eq_false (show ¬ (p : Int) = (ds.length : Int) by omega)]
        walk_at "r"
        intro t H5 nt k5 ht
        walk_at "r"
        exact q _ H5 (k4.trans k5) (oV_yes (a := dd) hpk ht (Da.mono k5.same _ _ hv))
end My

end
section
set_option maxHeartbeats 4000000
local macro_rules | `(tactic| walk_at "k") => `(tactic| first
  | assumption
  | exact W.Keep.trans (by assumption) (by assumption)
  | exact And.intro (by grind [W.Keep, W.Kp]) (by grind [W.Keep, W.Kt])
  | grind [W.Keep, W.Kp])
local macro_rules | `(tactic| walk_at "f") => `(tactic| first
  | assumption
  | exact L2.SqL.of (by assumption)
  | exact L2.SqT.of (by assumption)
  | exact L2.SqL.of L2.upd_same
  | exact L2.SqT.of L2.upd_same
  | exact L2.upd_same
  | exact W.carryL (by assumption) (by assumption)
  | exact W.carryL (by assumption) (by walk_at "k")
  | exact W.carryT (by assumption) (by walk_at "k")
  | exact W.carry (by assumption) (by grind [W.Keep, W.Kp])
  | exact L2.SqL.of (W.carry (by assumption) (by grind [W.Keep, W.Kp]))
  | exact L2.SqT.of (W.carry (by assumption) (by grind [W.Keep, W.Kp])))
local macro_rules | `(tactic| walk_at "a") => `(tactic| first
  | assumption
  | rfl)
local macro_rules | `(tactic| walk_at "n") => `(tactic| first
  | assumption
  | exact Nat.zero_le _
  | decide
  | (simp only [List.length_cons, List.length_nil]; decide)
  | omega
  | (simp only [PySem.sizeLine_eq]; omega)
  | (simp only [List.length_map, List.length_append, List.length_cons, List.length_nil, PySem.sizeLine_eq]; omega)
  | (simp only [List.length_map, List.length_append, List.length_cons, List.length_nil, List.length_take, List.length_drop, PySem.sizeLine_eq]; omega)
  | (simp only [List.length_map, List.length_append, List.length_cons, List.length_nil, PySem.sizeLine_eq] at *; omega))
local macro_rules | `(tactic| walk_at "c") => `(tactic| first
  | assumption
  | decide
  | exact And.intro (by decide) (by decide)
  | exact Or.inr (And.intro (by decide) (by decide))
  | exact Or.inl (And.intro (by decide) (by decide))
  | exact And.intro (by decide) (And.intro (by decide) (by decide))
  | exact (show (0 : Int) < _ by decide)
  | exact And.intro (by omega) (by omega)
  | exact Or.inl (And.intro (by omega) (by omega))
  | exact Or.inr (And.intro (by omega) (by omega))
  | exact (show (0 : Int) < _ by omega))
local macro_rules | `(tactic| walk_at "v") => `(tactic| with_reducible first
  | refine W.v0 ?_ | refine W.v1 ?_ | refine W.v2 ?_ | refine W.v3 ?_ | refine W.v4 ?_ | refine W.v5 ?_ | refine W.v6 ?_ | refine W.v7 ?_ | refine W.v8 ?_
  | refine W.v9 ?_ | refine W.v10 ?_ | refine W.v11 ?_ | refine W.v12 ?_ | refine W.v13 ?_ | refine W.v14 ?_ | refine W.v15 ?_ | refine W.v16 ?_ | refine W.v17 ?_
  | refine W.g0 ?_ | refine W.g1 ?_ | refine W.g2 ?_ | refine W.g3 ?_ | refine W.g4 ?_ | refine W.g5 ?_ | refine W.g6 ?_ | refine W.g7 ?_ | refine W.g8 ?_
  | refine W.g9 ?_ | refine W.g10 ?_ | refine W.g11 ?_ | refine W.g12 ?_ | refine W.g13 ?_ | refine W.g14 ?_ | refine W.g15 ?_)
local macro_rules | `(tactic| walk_at "e") => `(tactic| with_reducible first
  | refine W.e_c ?_ | refine W.e_op ?_ | refine W.s_seq ?_ | refine W.s_asg ?_ | refine W.e_CB ?_ | refine W.a_cons ?_ | refine W.a_nil ?_ | refine W.e_call ?_
  | refine W.t_test ?_ | refine W.w_B ?_ | refine W.s_if ?_ | refine W.s_ret ?_ | refine W.s_drop ?_ | refine W.e_un ?_ | refine W.e_fld ?_ | refine W.s_fld ?_
  | refine W.e_meth ?_ | refine W.e_if ?_ | refine W.e_lst ?_ | refine W.e_tup ?_ | refine W.e_sl ?_ | refine W.o_none ?_ | refine W.o_some ?_ | refine W.w_part ?_
  | refine W.e_bm ?_ | refine W.e_bm0 ?_ | refine W.t_B ?_ | refine W.t_and ?_ | refine W.t_or ?_ | refine W.t_not ?_ | refine W.e_andV ?_ | refine W.e_orV ?_ | refine W.e_notV ?_ | refine W.w_BV ?_ | refine W.e_chain ?_
  | refine W.s_aug ?_ | refine W.s_augS ?_ | refine W.s_next ?_ | refine W.s_brk ?_ | refine W.s_cont ?_ | refine W.s_retN ?_ | refine W.s_fa ?_ | refine W.e_make ?_ | refine W.w_make ?_
  | refine W.w_I0 ?_ | refine W.w_U ?_ | refine W.w_aug ?_ | refine W.w_eqI ?_ | refine W.w_neI ?_ | refine W.w_eqS ?_ | refine W.w_neS ?_ | refine W.w_eqB ?_ | refine W.w_neB ?_
  | refine W.w_int ?_ | refine W.w_intB ?_ | refine W.w_min ?_ | refine W.w_max ?_ | refine W.w_isN ?_ | refine W.w_isI ?_ | refine W.w_isS ?_ | refine W.w_isB ?_ | refine W.w_isR ?_
  | refine W.w_notN ?_ | refine W.w_notI ?_ | refine W.w_notR ?_ | refine W.w_notS ?_ | refine W.w_eqNI ?_ | refine W.w_neNI ?_ | refine W.w_eqN ?_ | refine W.w_neN ?_
  | refine W.s_forL ?_ | refine W.s_forT ?_ | refine W.s_forS ?_ | refine W.s_forR1 ?_ | refine W.s_forR2 ?_ | refine W.s_forR3 ?_ | refine W.s_forZ ?_ | refine W.s_forE ?_
  | refine W.e_lcL ?_ | refine W.e_lcT ?_ | refine W.w_ord ?_ | refine W.e_lcR1 ?_ | refine W.e_lcR2 ?_ | refine W.e_lcZ ?_ | refine W.e_lcS ?_ | refine W.t_yes ?_ | refine W.w_gcons ?_ | refine W.w_gnil ?_ | refine W.s_par ?_ | refine W.w_par ?_ | refine W.g_sub ?_ | refine W.e_m1 ?_ | refine W.w_strR ?_ | refine W.w_rAdd ?_ | refine W.w_rSub ?_ | refine W.s_raise ?_ | refine W.s_try ?_ | refine W.e_methS ?_)
local macro_rules | `(tactic| walk_at "w") => `(tactic| first
  | ((with_reducible refine' W.w_I ?wh ?wq); (case wh => walk_at "c"))
  | ((with_reducible refine' W.w_ixL (n := 0) ?wh ?we ?wq); (case wh => walk_at "f"); (case we => walk_at "a"))
  | ((with_reducible refine' W.w_ixT (n := 0) ?wh ?we ?wq); (case wh => walk_at "f"); (case we => walk_at "a"))
  | ((with_reducible refine' W.w_lenL ?wh ?wq); (case wh => walk_at "f"))
  | ((with_reducible refine' W.w_lenT ?wh ?wq); (case wh => walk_at "f"))
  | ((with_reducible refine' W.w_lenS ?wh ?wq); (case wh => walk_at "n"))
  | ((with_reducible refine' W.w_app ?wh ?we ?wq); (case wh => walk_at "f"); (case we => walk_at "n"))
  | ((with_reducible refine' W.w_meth ?wh ?we ?wq); (case wh => walk_at "f"); (case we => first | assumption | rfl))
  | ((with_reducible refine' W.w_ixLTl ?wh ?we ?wq); (case wh => walk_at "f"); (case we => walk_at "a"))
  | ((with_reducible refine' W.w_ixLTt ?wh ?we ?wq); (case wh => walk_at "f"); (case we => walk_at "a"))
  | ((with_reducible refine' W.w_addS ?wh ?wq); (case wh => walk_at "n"))
  | ((with_reducible refine' W.w_set ?wh ?we ?wq); (case wh => walk_at "f"); (case we => walk_at "a"))
  | ((with_reducible refine' W.w_tup ?wh ?we ?wq); (case wh => walk_at "f"); (case we => first | assumption | rfl))
  | ((with_reducible refine' W.w_slS ?wh ?wq); (case wh => walk_at "n"))
  | ((with_reducible refine' W.w_rApp ?wh ?we ?wq); (case wh => walk_at "f"); (case we => walk_at "n"))
  | ((with_reducible refine' W.w_newL ?wh ?wq); (case wh => walk_at "n"))
  | ((with_reducible refine' W.w_newT ?wh ?wq); (case wh => walk_at "n"))
  | ((with_reducible refine' W.w_listL ?wh ?wq); (case wh => walk_at "f"))
  | ((with_reducible refine' W.w_tupL ?wh ?wq); (case wh => walk_at "f"))
  | ((with_reducible refine' W.w_slL ?wh ?wq); (case wh => walk_at "f"))
  | ((with_reducible refine' W.w_cat ?wh ?wf ?we ?wq); (case wh => walk_at "f"); (case wf => walk_at "f"); (case we => walk_at "n"))
  | ((with_reducible refine' W.w_catT ?wh ?wf ?wx ?wy ?we ?wq); (case wh => walk_at "f"); (case wf => walk_at "f"); (case wx => exact List.cons_ne_nil _ _); (case wy => exact List.cons_ne_nil _ _); (case we => walk_at "n"))
  | ((with_reducible refine' W.w_ext ?wh ?wf ?we ?wq); (case wh => walk_at "f"); (case wf => walk_at "f"); (case we => walk_at "n"))
  | ((with_reducible refine' W.w_recv ?wh ?wq); (case wh => walk_at "f"))
  | ((with_reducible refine' W.w_isi1 ?wh ?we ?wq); (case wh => assumption); (case we => decide +kernel))
  | ((with_reducible refine' W.w_isi0 ?wh ?we ?wq); (case wh => assumption); (case we => decide +kernel))
  | ((with_reducible refine' W.w_isiT10 ?wh ?wf ?we ?wg ?wq); (case wh => assumption); (case wf => walk_at "f"); (case we => decide +kernel); (case wg => decide +kernel))
  | ((with_reducible refine' W.w_isiT01 ?wh ?wf ?we ?wg ?wq); (case wh => assumption); (case wf => walk_at "f"); (case we => decide +kernel); (case wg => decide +kernel))
  | ((with_reducible refine' W.w_isiT00 ?wh ?wf ?we ?wg ?wq); (case wh => assumption); (case wf => walk_at "f"); (case we => decide +kernel); (case wg => decide +kernel))
  | ((with_reducible refine' W.w_ins ?wh ?we ?wf ?wq); (case wh => walk_at "f"); (case we => walk_at "n"); (case wf => walk_at "c"))
  | ((with_reducible refine' W.w_unl ?wh ?we ?wq); (case wh => walk_at "f"); (case we => first | assumption | rfl))
  | ((with_reducible refine' W.ite_T ?_))
  | ((with_reducible refine' W.ite_F ?_))
  | ((with_reducible refine' W.ite_nT ?_))
  | ((with_reducible refine' W.ite_nF ?_))
  | ((with_reducible refine' W.ite_self ?_))
  | ((with_reducible refine' W.ite_nself ?_))
  | ((with_reducible refine' W.ite_tf ?_))
  | ((with_reducible refine' W.ite_ft ?_))
  | ((with_reducible refine' W.ite_ntf ?_))
  | ((with_reducible refine' W.ite_nft ?_))
  | ((with_reducible refine' And.intro ?wl ?wq); (case wl => rfl)))
local macro_rules | `(tactic| walk_at "i") => `(tactic| try (dsimp only [L2.cxOf, L2.wipe, List.map, List.set]))
local macro_rules | `(tactic| walk_at "s") => `(tactic| first | walk_at "v" | walk_at "e" | walk_at "w")
local macro_rules | `(tactic| walk_at "r") => `(tactic| repeat walk_at "s")

namespace My
open PySem L2 W
local macro_rules | `(tactic| walk_at "w") => `(tactic| first
  | ((with_reducible refine' W.w_getF ?wh ?wc ?wn ?wl ?wq); (case wh => walk_at "f"); (case wc => exact Env.c_Reader (by assumption)); (case wn => first | exact Env.x_Reader_data (by assumption) | exact Env.x_Reader_at (by assumption)); (case wl => first | exact lk1 | exact lk2)))
variable {P : Program} {w : World} {K : PySem.W.Frag} {mg : Str → Option Value} {base : Heap} {A : Adr}
theorem vTl.keep {S : List Addr} {H H' : Hp} {ts : List Tri} {a : Addr} (h : vTl H ts (.ref a)) (k : Keep S H H') (n : a ∉ S) : vTl H' ts (.ref a) := by
  obtain ⟨b, us, e, h1, h2⟩ := h
  cases e
  exact ⟨a, us, rfl, k.get h1 n, vTs.keep h2 k⟩
structure Good (n : Nat) (s : List Nat) (d : Dd) (ts : List Tri) : Prop where
  on : okn n
  os : oks s
  sl : s.length ≤ 140
  od : small d
  ot : ∀ t ∈ ts, okn t.r ∧ okn t.p ∧ small t.d
  tl : ts.length ≤ 6
def byt (n : Nat) (s : List Nat) (d : Dd) (ts : List Tri) : List (List Int) := [wn n, ws s, wd d, wts ts, wp ts]
def pdt (n : Nat) (s : List Nat) (d : Dd) (ts : List Tri) : List PyData := [.int (n : Int), .str (tx s), pdD d, pdTl ts, pdTl ts]
section
variable {n : Nat} {s : List Nat} {d : Dd} {ts : List Tri}
theorem Good.okt (g : Good n s d ts) : ∀ t ∈ ts, okt t := fun t ht => ⟨(g.ot t ht).1, (g.ot t ht).2.1, (g.ot t ht).2.2.1⟩
theorem wts_le {ts : List Tri} (h : ∀ t ∈ ts, okn t.r ∧ okn t.p ∧ small t.d) (h2 : ts.length ≤ 6) : (wts ts).length ≤ 15000 := by
  have h3 : ((ts.map wt).flatten).length ≤ 2020 * ts.length := by
    clear h2
    induction ts with
    | nil => simp
    | cons t r ih =>
      obtain ⟨o1, o2, o3⟩ := h t (by simp)
      have l1 := wn_le10 o1
      have l2 := wn_le10 o2
      have l3 := o3.2
      have l4 := ih (fun x hx => h x (by simp [hx]))
      have l5 : (wt t).length = (wn t.r).length + (wn t.p).length + (wd t.d).length := by simp [wt]; omega
      rw [List.map_cons, List.flatten_cons, List.length_append, List.length_cons]; omega
  have h4 := wn_len 0 ts.length (by omega)
  unfold wts wl
  rw [List.length_append, List.length_map]; omega
theorem Good.len (g : Good n s d ts) : ∀ x ∈ byt n s d ts, x.length ≤ 20000 := by
  have h1 := wn_le10 g.on
  have h2 := ws_le g.os
  have h3 := g.od.2
  have h4 := wts_le g.ot g.tl
  have h5 := g.sl
  have h6 : (wp ts).length = (wts ts).length + 1 := by simp [wp]
  intro x hx
  simp only [byt, List.mem_cons, List.not_mem_nil, or_false] at hx
  rcases hx with rfl | rfl | rfl | rfl | rfl <;> omega
theorem nn_wn {n : Nat} : ∀ b ∈ wn n, 0 ≤ b := fun b hb => (wn_byte n n (Nat.le_refl _) b hb).1
theorem nn_flat {xs : List (List Int)} (h : ∀ x ∈ xs, ∀ b ∈ x, 0 ≤ b) : ∀ b ∈ xs.flatten, 0 ≤ b := fun b hb => by
  obtain ⟨x, hx, hb⟩ := List.mem_flatten.mp hb
  exact h x hx b hb
theorem nn_app {xs ys : List Int} (h : ∀ b ∈ xs, 0 ≤ b) (k : ∀ b ∈ ys, 0 ≤ b) : ∀ b ∈ xs ++ ys, 0 ≤ b := fun b hb => (List.mem_append.mp hb).elim (h b) (k b)
theorem nn_wl {xs : List (List Int)} (h : ∀ x ∈ xs, ∀ b ∈ x, 0 ≤ b) : ∀ b ∈ wl xs, 0 ≤ b := nn_app nn_wn (nn_flat h)
theorem nn_map {α : Type} {f : α → List Int} {l : List α} (h : ∀ a, ∀ b ∈ f a, 0 ≤ b) : ∀ x ∈ l.map f, ∀ b ∈ x, 0 ≤ b := fun x hx => by
  obtain ⟨a, _, rfl⟩ := List.mem_map.mp hx
  exact h a
theorem nn_ws {s : List Nat} : ∀ b ∈ ws s, 0 ≤ b := nn_wl (nn_map fun _ => nn_wn)
theorem nn_wm (m : Nat × Nat) : ∀ b ∈ wm m, 0 ≤ b := nn_app nn_wn nn_wn
theorem nn_cons {x : Int} {xs : List Int} (h : 0 ≤ x) (k : ∀ b ∈ xs, 0 ≤ b) : ∀ b ∈ x :: xs, 0 ≤ b := fun b hb => (List.mem_cons.mp hb).elim (fun z => by omega) (k b)
theorem nn_wd (d : Dd) : ∀ b ∈ wd d, 0 ≤ b := by
  cases d with
  | back n => exact nn_cons (by decide) nn_wn
  | chg m rm bh n t =>
    refine nn_cons (by decide) (nn_app (nn_app (nn_app (nn_app nn_ws (nn_wl (nn_map nn_wm))) ?_) nn_wn) nn_ws)
    cases bh with
    | none => exact nn_cons (by decide) (by simp)
    | some m => exact nn_cons (by decide) (nn_wm m)
theorem nn_wt (t : Tri) : ∀ b ∈ wt t, 0 ≤ b := nn_app (nn_app nn_wn nn_wn) (nn_wd t.d)
theorem nn_wts {ts : List Tri} : ∀ b ∈ wts ts, 0 ≤ b := nn_wl (nn_map nn_wt)
theorem nn_byt : ∀ x ∈ byt n s d ts, ∀ b ∈ x, 0 ≤ b := by
  intro x hx
  simp only [byt, List.mem_cons, List.not_mem_nil, or_false] at hx
  rcases hx with rfl | rfl | rfl | rfl | rfl
  · exact nn_wn
  · exact nn_ws
  · exact nn_wd d
  · exact nn_wts
  · exact nn_cons (by decide) nn_wts
theorem RT.at0 {α : Type} {P : Rdr α} {w : α → List Int} {a : α} (h : RT P w a) : P (w a) 0 = some (a, (w a).length) := by
  have := h [] []
  simpa using this
theorem small_wd {d : Dd} (h : small d) : wdD d ≤ 1000 := by
  cases d with
  | back n => exact Nat.zero_le _
  | chg m rm bh n t => exact h.1.2.2.1
theorem Good.pk (g : Good n s d ts) {i : Nat} {b : List Int} {x : PyData} (h : (byt n s d ts)[i]? = some b) (h2 : (pdt n s d ts)[i]? = some x) : pk (i : Int) b = some (x, b.length) := by
  have r1 := (RT_num g.on.lt).at0
  have r2 := (RT_str g.os).at0
  have r3 := (RT_dd g.od.1).at0
  have r4 := (RT_trs g.okt (Nat.le_trans g.tl (by decide))).at0
  have r5 := (RT_pk g.okt (Nat.le_trans g.tl (by decide))).at0
  match i, h, h2 with
  | 0, h, h2 => cases h; cases h2; unfold My.pk; rw [if_pos (by rfl), r1]; rfl
  | 1, h, h2 => cases h; cases h2; unfold My.pk; rw [if_neg (by decide), if_pos (by rfl), r2]; rfl
  | 2, h, h2 => cases h; cases h2; unfold My.pk; rw [if_neg (by decide), if_neg (by decide), if_pos (by rfl), r3]; rfl
  | 3, h, h2 => cases h; cases h2; unfold My.pk; rw [if_neg (by decide), if_neg (by decide), if_neg (by decide), if_pos (by rfl), r4]; rfl
  | 4, h, h2 => cases h; cases h2; unfold My.pk; rw [if_neg (by decide), if_neg (by decide), if_neg (by decide), if_neg (by decide), r5]; rfl
theorem dep_pdt : dep (.list (pdt n s d ts)) ≤ 6 := by
  have h1 := dep_D d
  have h2 := dep_Tl ts
  simp only [pdt, dep, depL]; omega
theorem Good.wid (g : Good n s d ts) : wid (.list (pdt n s d ts)) ≤ 1000 := by
  have h1 := wid_D d
  have h2 := wid_Tl (ts := ts) (n := 1000) (fun t ht => small_wd (g.ot t ht).2.2) (Nat.le_trans g.tl (by decide))
  have h3 := small_wd g.od
  simp only [pdt, W.wid, widL, List.length_cons, List.length_nil]; omega
end
def sp_row : Sp := fun vs H Q _ => ∃ (th wr : Addr) (us : List V) (n : Nat) (s : List Nat) (d : Dd) (ts : List Tri), vs = [.ref th, .ref wr] ∧ Da H (.list (pdt n s d ts)) (.ref th) ∧ H wr = some (.lst us) ∧ Lsts H us (byt n s d ts) ∧ Good n s d ts ∧
  ∀ H', Keep [] H H' → Q (.bl true) H'
theorem ok__law_in_a_row (e : Env K mg A) : FnOk P w K mg base CX0 9 A.f__law_in_a_row A.d__law_in_a_row ["things", "written"] sp_row := by
  have G_Reader___init__ := ok_Reader___init__ (P := P) (w := w) (base := base) e
  have G_Reader_read_number := ok_Reader_read_number (P := P) (w := w) (base := base) e
  have G_Reader_read_string := ok_Reader_read_string (P := P) (w := w) (base := base) e
  have G_Reader_read_deed := ok_Reader_read_deed (P := P) (w := w) (base := base) e
  have G_Reader_read_triples := ok_Reader_read_triples (P := P) (w := w) (base := base) e
  have G_Reader_read_packet := ok_Reader_read_packet (P := P) (w := w) (base := base) e
  have G_Reader_end := ok_Reader_end (P := P) (w := w) (base := base) e
  have G__law_same := ok__law_same (P := P) (w := w) (base := base) e 7
  refine e.F__law_in_a_row.ok sc__law_in_a_row (fun vs H Q E h => ?_) (fun cdv AA outer s H vs Q E hr h => ?_)
  · obtain ⟨th, wr, us, n, s, d, ts, rfl, _⟩ := h
    rfl
  · obtain ⟨th, wr, us, n, s, dd, ts, rfl, hth, hwr, hL, g, q⟩ := h
    refine ⟨_, (pss_cons (ps_set (i := 2) sc__law_in_a_row.nd rfl (Or.inl rfl) (pe_lst pa_nil))
    (pss_cons (ps_for PassesOwn.never rfl (pi_listK (K := K) (pv 1)) (pg_name (i := 3) sc__law_in_a_row.nd rfl (Or.inl rfl)) (pss_one (ps_set (i := 2) sc__law_in_a_row.nd rfl (Or.inl rfl) (pe_op op_cat (pv 2) (pv 3)))))
    (pss_cons (ps_set (i := 4) sc__law_in_a_row.nd rfl (Or.inl rfl) (pe_make e.M_Reader G_Reader___init__ (hr.mono (by omega)) (by rfl) e.m_Reader e.b_Reader___init__ .nil pass0 (pa_cons (pv 2) pa_nil)))
    (pss_cons (ps_expr (pe_bmK (K := K) PySem.F.plainAttrs_list PySem.F.slot_list_append PySem.F.type_list_append mt_append (pv 2) (pa_cons pe_int pa_nil)))
    (pss_cons (ps_if (pt_cmpR op_ne (pe_fldK (K := K) (pv 4) rfl) pe_int (nomark _)) (pss_one (ps_ret pe_bl)) pss_nil)
    (pss_cons (ps_set (i := 5) sc__law_in_a_row.nd rfl (Or.inl rfl) (pe_lst (pa_cons (pe_meth0 (pv 4) e.c_Reader e.h_Reader_read_number G_Reader_read_number (hr.mono (by omega)) e.b_Reader_read_number .nil passL) (pa_cons (pe_meth0 (pv 4) e.c_Reader e.h_Reader_read_string G_Reader_read_string (hr.mono (by omega)) e.b_Reader_read_string .nil passL) (pa_cons (pe_meth0 (pv 4) e.c_Reader e.h_Reader_read_deed G_Reader_read_deed (hr.mono (by omega)) e.b_Reader_read_deed .nil passL) (pa_cons (pe_meth0 (pv 4) e.c_Reader e.h_Reader_read_triples G_Reader_read_triples (hr.mono (by omega)) e.b_Reader_read_triples .nil passL) (pa_cons (pe_meth0 (pv 4) e.c_Reader e.h_Reader_read_packet G_Reader_read_packet (hr.mono (by omega)) e.b_Reader_read_packet .nil passL) pa_nil)))))))
    (pss_cons (ps_expr (pe_meth0 (pv 4) e.c_Reader e.h_Reader_end G_Reader_end (hr.mono (by omega)) e.b_Reader_end .nil passL))
    (pss_one (ps_ret (pe_call G__law_same (hr.mono (by omega)) (by rfl) e.m__law_same e.k__law_same e.b__law_same .nil pass0 (pa_cons (pv 5) (pa_cons (pv 0) pa_nil)))))))))))), ?_⟩
    refine enter (st__law_in_a_row _ _) ?_
    walk_at "i"
    walk_at "r"
    intro z H1 nz k1 hz
    walk_at "r"
    have hlen : ∀ i, ((byt n s dd ts).take i).flatten.length ≤ 100000 := fun i => by
      have h1 := take_flat_len (byt n s dd ts) i
      have h2 := g.len
      simp only [byt, List.flatten_cons, List.flatten_nil, List.length_append, List.length_nil, List.mem_cons, forall_eq_or_imp] at h1 h2 ⊢
      omega
    refine forL (SqL.of (k1.get hwr (by simp))) (fun i σ H' => ∃ D v3, σ = [some (.ref th), some (.ref wr), some (.ref D), v3, none, none] ∧ Keep [] H H' ∧ H D = none ∧ H' D = some (.lst ((((byt n s dd ts).take i).flatten).map V.int)))
      ⟨z, _, rfl, k1, nz, hz⟩ (fun i σ H' _ h => ?_) ?_ ?_
    · obtain ⟨_, _, _, k, _⟩ := h
      exact SqL.of (k.get hwr (by simp))
    · rintro i x σ H2 hx ⟨D, v3, rfl, k2, nD, hD⟩
      obtain ⟨b, hb, t, rfl, ht⟩ := pd_get hL hx
      have ht2 := k2.get ht (by simp)
      have e1 : ((byt n s dd ts).take (i + 1)).flatten = ((byt n s dd ts).take i).flatten ++ b := by rw [List.take_add_one, hb]; simp
      have h1 := hlen (i + 1)
      rw [e1, List.length_append] at h1
      walk_at "r"
      intro c H3 nc k3 hc
      walk_at "r"
      exact ⟨c, _, rfl, k2.trans k3, k2.free nc (by simp), by rw [hc, e1, List.map_append]⟩
    · rintro σ H2 ⟨D, v3, rfl, k2, nD, hD⟩
      have hl1 := hlen us.length
      rw [show us.length = (byt n s dd ts).length from hL.len, List.take_length] at hD hl1
      generalize hds : (byt n s dd ts).flatten = ds at hD hl1
      have hds : ds = wn n ++ (ws s ++ (wd dd ++ (wts ts ++ wp ts))) := by rw [← hds]; simp [byt]
      have hth2 := Da.mono k2.same _ _ hth
      have hth0 := hth
      clear hL hwr hz k1 hlen
      walk_at "r"
      intro r dx H3 nr k3 hr3
      refine ⟨r, dx, D, ds, rfl, hr3, k3.get hD (by simp), fun d H4 nd k4 R4 => ⟨rfl, ?_⟩⟩
      have k34 : Keep [] H2 H4 := k3.mut nr k4
      have hD4 := k34.get hD (by simp)
      have nrD : D ≠ r := ne_of_none hD nr
      have ndD : D ≠ d := ne_of_none (k3.get hD (by simp)) nd
      have hth4 := Da.mono k34.same _ _ hth2
      clear k3 k4 hr3 hD
      walk_at "r"
      intro H5 k5 hD5
      have R5 := R4.keep k5 (by simp [Ne.symm nrD]) (by simp [Ne.symm ndD])
      have hr5 := R5.1
      have k25 : Keep [] H H5 := (k2.trans k34).mut nD k5
      have hth5 := Da.mono k25.same _ _ hth
      have nr0 : H r = none := k2.free nr (by simp)
      have e1 := (RT_num g.on.lt).at (ds := ds) (p := 0) [] (ws s ++ (wd dd ++ (wts ts ++ wp ts))) (by rw [hds]; simp) rfl
      have e2 := (RT_str g.os).at (ds := ds) (p := 0 + (wn n).length) (wn n) (wd dd ++ (wts ts ++ wp ts)) (by rw [hds]) (by omega)
      have e3 := (RT_dd g.od.1).at (ds := ds) (p := 0 + (wn n).length + (ws s).length) (wn n ++ ws s) (wts ts ++ wp ts) (by rw [hds]; simp) (by rw [List.length_append]; omega)
      have e4 := (RT_trs g.okt (Nat.le_trans g.tl (by decide))).at (ds := ds) (p := 0 + (wn n).length + (ws s).length + (wd dd).length) (wn n ++ ws s ++ wd dd) (wp ts) (by rw [hds]; simp) (by simp only [List.length_append]; omega)
      have e5 := (RT_pk g.okt (Nat.le_trans g.tl (by decide))).at (ds := ds) (p := 0 + (wn n).length + (ws s).length + (wd dd).length + (wts ts).length) (wn n ++ ws s ++ wd dd ++ wts ts) [] (by rw [hds]; simp) (by simp only [List.length_append]; omega)
      have e6 : 0 + (wn n).length + (ws s).length + (wd dd).length + (wts ts).length + (wp ts).length = ds.length := by rw [hds]; simp only [List.length_append]; omega
      rw [e6] at e5
      generalize 0 + (wn n).length + (ws s).length + (wd dd).length + (wts ts).length = p4 at e4 e5
      generalize 0 + (wn n).length + (ws s).length + (wd dd).length = p3 at e3 e4
      generalize 0 + (wn n).length + (ws s).length = p2 at e2 e3
      generalize 0 + (wn n).length = p1 at e1 e2
      have hlk1 : (rdF d 0).lookup ("read_number" : Str) = none := lkn (by decide +kernel) (by decide +kernel)
      have hlk2 : (rdF d p1).lookup ("read_string" : Str) = none := lkn (by decide +kernel) (by decide +kernel)
      have hlk3 : (rdF d p2).lookup ("read_deed" : Str) = none := lkn (by decide +kernel) (by decide +kernel)
      have hlk4 : (rdF d p3).lookup ("read_triples" : Str) = none := lkn (by decide +kernel) (by decide +kernel)
      have hlk5 : (rdF d p4).lookup ("read_packet" : Str) = none := lkn (by decide +kernel) (by decide +kernel)
      have hlk6 : (rdF d ds.length).lookup ("end" : Str) = none := lkn (by decide +kernel) (by decide +kernel)
      clear hds hth2 hth4 hD4 hD5 k5 R4 k34 k2 hth
      walk_at "r"
      refine ite_ndec (fun h => absurd rfl h) (fun _ => ?_)
      walk_at "r"
      refine ⟨r, dx, d, ds, 0, rfl, R5, by omega, fun x p hx v H6 k6 R6 hv => ?_, fun hx => by rw [e1] at hx; cases hx⟩
      rw [e1] at hx
      cases hx
      cases hv
      have hr6 := R6.1
      walk_at "r"
      refine ⟨r, dx, d, ds, p1, rfl, R6, by omega, fun x p hx v H7 k7 R7 hv => ?_, fun hx => by rw [e2] at hx; cases hx⟩
      rw [e2] at hx
      cases hx
      cases hv
      have hr7 := R7.1
      walk_at "r"
      refine ⟨r, dx, d, ds, p2, rfl, R7, by omega, fun x p hx v3 H8 k8 R8 hv3 => ?_, fun hx => by rw [e3] at hx; cases hx⟩
      rw [e3] at hx
      cases hx
      have hr8 := R8.1
      walk_at "r"
      refine ⟨r, dx, d, ds, p3, rfl, R8, by omega, fun x p hx v4 H9 k9 R9 hv4 => ?_, fun hx => by rw [e4] at hx; cases hx⟩
      rw [e4] at hx
      cases hx
      have hr9 := R9.1
      walk_at "r"
      refine ⟨r, dx, d, ds, p4, rfl, R9, by omega, fun x p hx v5 H10 k10 R10 hv5 => ?_, fun hx => by rw [e5] at hx; cases hx⟩
      rw [e5] at hx
      cases hx
      have hr10 := R10.1
      have k510 := k6.trans (k7.trans (k8.trans (k9.trans k10)))
      have kH : Keep [] H H10 := k25.mut nr0 k510
      have hv3' := vD.keep hv3 (k9.trans k10)
      have hv4' : vTl H10 ts v4 := by
        obtain ⟨b, us, rfl, hb⟩ := hv4
        refine vTl.keep ⟨b, us, rfl, hb⟩ k10 ?_
        intro z
        simp at z
        subst z
        rw [hr9] at hb
        cases hb.1
      clear k6 k7 k8 k9 k10 hr5 hr6 hr7 hr8 hr9 R5 R6 R7 R8 R9 hv3 hv4 k510 k25
      walk_at "r"
      intro td H11 nt k11 htd
      have R11 := R10.keep k11 (by simp) (by simp)
      have hr11 := R11.1
      clear hr10
      walk_at "r"
      refine ⟨r, dx, d, ds, ds.length, rfl, R11, fun _ => ?_, fun h => absurd h (by omega)⟩
      walk_at "r"
      have kH11 := kH.trans k11
      refine ⟨.ref td, .ref th, .list (pdt n s dd ts), rfl, Da.lst htd ?_, Da.mono (Keep.same kH11) _ _ hth0, dep_pdt, Nat.le_trans g.wid (by decide), fun H12 k12 => q H12 (kH11.trans k12)⟩
      exact DaL.cons Da.int (DaL.cons Da.str (DaL.cons (vD.da (vD.keep hv3' k11)) (DaL.cons (Da.mono k11.same _ _ (vTl.da hv4')) (DaL.one (Da.mono k11.same _ _ (vTl.da hv5))))))
end My

end
section
set_option maxHeartbeats 4000000
local macro_rules | `(tactic| walk_at "k") => `(tactic| first
  | assumption
  | exact W.Keep.trans (by assumption) (by assumption)
  | exact And.intro (by grind [W.Keep, W.Kp]) (by grind [W.Keep, W.Kt])
  | grind [W.Keep, W.Kp])
local macro_rules | `(tactic| walk_at "f") => `(tactic| first
  | assumption
  | exact L2.SqL.of (by assumption)
  | exact L2.SqT.of (by assumption)
  | exact L2.SqL.of L2.upd_same
  | exact L2.SqT.of L2.upd_same
  | exact L2.upd_same
  | exact W.carryL (by assumption) (by assumption)
  | exact W.carryL (by assumption) (by walk_at "k")
  | exact W.carryT (by assumption) (by walk_at "k")
  | exact W.carry (by assumption) (by grind [W.Keep, W.Kp])
  | exact L2.SqL.of (W.carry (by assumption) (by grind [W.Keep, W.Kp]))
  | exact L2.SqT.of (W.carry (by assumption) (by grind [W.Keep, W.Kp])))
local macro_rules | `(tactic| walk_at "a") => `(tactic| first
  | assumption
  | rfl)
local macro_rules | `(tactic| walk_at "n") => `(tactic| first
  | assumption
  | exact Nat.zero_le _
  | decide
  | (simp only [List.length_cons, List.length_nil]; decide)
  | omega
  | (simp only [PySem.sizeLine_eq]; omega)
  | (simp only [List.length_map, List.length_append, List.length_cons, List.length_nil, PySem.sizeLine_eq]; omega)
  | (simp only [List.length_map, List.length_append, List.length_cons, List.length_nil, List.length_take, List.length_drop, PySem.sizeLine_eq]; omega)
  | (simp only [List.length_map, List.length_append, List.length_cons, List.length_nil, PySem.sizeLine_eq] at *; omega))
local macro_rules | `(tactic| walk_at "c") => `(tactic| first
  | assumption
  | decide
  | exact And.intro (by decide) (by decide)
  | exact Or.inr (And.intro (by decide) (by decide))
  | exact Or.inl (And.intro (by decide) (by decide))
  | exact And.intro (by decide) (And.intro (by decide) (by decide))
  | exact (show (0 : Int) < _ by decide)
  | exact And.intro (by omega) (by omega)
  | exact Or.inl (And.intro (by omega) (by omega))
  | exact Or.inr (And.intro (by omega) (by omega))
  | exact (show (0 : Int) < _ by omega))
local macro_rules | `(tactic| walk_at "v") => `(tactic| with_reducible first
  | refine W.v0 ?_ | refine W.v1 ?_ | refine W.v2 ?_ | refine W.v3 ?_ | refine W.v4 ?_ | refine W.v5 ?_ | refine W.v6 ?_ | refine W.v7 ?_ | refine W.v8 ?_
  | refine W.v9 ?_ | refine W.v10 ?_ | refine W.v11 ?_ | refine W.v12 ?_ | refine W.v13 ?_ | refine W.v14 ?_ | refine W.v15 ?_ | refine W.v16 ?_ | refine W.v17 ?_
  | refine W.g0 ?_ | refine W.g1 ?_ | refine W.g2 ?_ | refine W.g3 ?_ | refine W.g4 ?_ | refine W.g5 ?_ | refine W.g6 ?_ | refine W.g7 ?_ | refine W.g8 ?_
  | refine W.g9 ?_ | refine W.g10 ?_ | refine W.g11 ?_ | refine W.g12 ?_ | refine W.g13 ?_ | refine W.g14 ?_ | refine W.g15 ?_)
local macro_rules | `(tactic| walk_at "e") => `(tactic| with_reducible first
  | refine W.e_c ?_ | refine W.e_op ?_ | refine W.s_seq ?_ | refine W.s_asg ?_ | refine W.e_CB ?_ | refine W.a_cons ?_ | refine W.a_nil ?_ | refine W.e_call ?_
  | refine W.t_test ?_ | refine W.w_B ?_ | refine W.s_if ?_ | refine W.s_ret ?_ | refine W.s_drop ?_ | refine W.e_un ?_ | refine W.e_fld ?_ | refine W.s_fld ?_
  | refine W.e_meth ?_ | refine W.e_if ?_ | refine W.e_lst ?_ | refine W.e_tup ?_ | refine W.e_sl ?_ | refine W.o_none ?_ | refine W.o_some ?_ | refine W.w_part ?_
  | refine W.e_bm ?_ | refine W.e_bm0 ?_ | refine W.t_B ?_ | refine W.t_and ?_ | refine W.t_or ?_ | refine W.t_not ?_ | refine W.e_andV ?_ | refine W.e_orV ?_ | refine W.e_notV ?_ | refine W.w_BV ?_ | refine W.e_chain ?_
  | refine W.s_aug ?_ | refine W.s_augS ?_ | refine W.s_next ?_ | refine W.s_brk ?_ | refine W.s_cont ?_ | refine W.s_retN ?_ | refine W.s_fa ?_ | refine W.e_make ?_ | refine W.w_make ?_
  | refine W.w_I0 ?_ | refine W.w_U ?_ | refine W.w_aug ?_ | refine W.w_eqI ?_ | refine W.w_neI ?_ | refine W.w_eqS ?_ | refine W.w_neS ?_ | refine W.w_eqB ?_ | refine W.w_neB ?_
  | refine W.w_int ?_ | refine W.w_intB ?_ | refine W.w_min ?_ | refine W.w_max ?_ | refine W.w_isN ?_ | refine W.w_isI ?_ | refine W.w_isS ?_ | refine W.w_isB ?_ | refine W.w_isR ?_
  | refine W.w_notN ?_ | refine W.w_notI ?_ | refine W.w_notR ?_ | refine W.w_notS ?_ | refine W.w_eqNI ?_ | refine W.w_neNI ?_ | refine W.w_eqN ?_ | refine W.w_neN ?_
  | refine W.s_forL ?_ | refine W.s_forT ?_ | refine W.s_forS ?_ | refine W.s_forR1 ?_ | refine W.s_forR2 ?_ | refine W.s_forR3 ?_ | refine W.s_forZ ?_ | refine W.s_forE ?_
  | refine W.e_lcL ?_ | refine W.e_lcT ?_ | refine W.w_ord ?_ | refine W.e_lcR1 ?_ | refine W.e_lcR2 ?_ | refine W.e_lcZ ?_ | refine W.e_lcS ?_ | refine W.t_yes ?_ | refine W.w_gcons ?_ | refine W.w_gnil ?_ | refine W.s_par ?_ | refine W.w_par ?_ | refine W.g_sub ?_ | refine W.e_m1 ?_ | refine W.w_strR ?_ | refine W.w_rAdd ?_ | refine W.w_rSub ?_ | refine W.s_raise ?_ | refine W.s_try ?_ | refine W.e_methS ?_)
local macro_rules | `(tactic| walk_at "w") => `(tactic| first
  | ((with_reducible refine' W.w_I ?wh ?wq); (case wh => walk_at "c"))
  | ((with_reducible refine' W.w_ixL (n := 0) ?wh ?we ?wq); (case wh => walk_at "f"); (case we => walk_at "a"))
  | ((with_reducible refine' W.w_ixT (n := 0) ?wh ?we ?wq); (case wh => walk_at "f"); (case we => walk_at "a"))
  | ((with_reducible refine' W.w_lenL ?wh ?wq); (case wh => walk_at "f"))
  | ((with_reducible refine' W.w_lenT ?wh ?wq); (case wh => walk_at "f"))
  | ((with_reducible refine' W.w_lenS ?wh ?wq); (case wh => walk_at "n"))
  | ((with_reducible refine' W.w_app ?wh ?we ?wq); (case wh => walk_at "f"); (case we => walk_at "n"))
  | ((with_reducible refine' W.w_meth ?wh ?we ?wq); (case wh => walk_at "f"); (case we => first | assumption | rfl))
  | ((with_reducible refine' W.w_ixLTl ?wh ?we ?wq); (case wh => walk_at "f"); (case we => walk_at "a"))
  | ((with_reducible refine' W.w_ixLTt ?wh ?we ?wq); (case wh => walk_at "f"); (case we => walk_at "a"))
  | ((with_reducible refine' W.w_addS ?wh ?wq); (case wh => walk_at "n"))
  | ((with_reducible refine' W.w_set ?wh ?we ?wq); (case wh => walk_at "f"); (case we => walk_at "a"))
  | ((with_reducible refine' W.w_tup ?wh ?we ?wq); (case wh => walk_at "f"); (case we => first | assumption | rfl))
  | ((with_reducible refine' W.w_slS ?wh ?wq); (case wh => walk_at "n"))
  | ((with_reducible refine' W.w_rApp ?wh ?we ?wq); (case wh => walk_at "f"); (case we => walk_at "n"))
  | ((with_reducible refine' W.w_newL ?wh ?wq); (case wh => walk_at "n"))
  | ((with_reducible refine' W.w_newT ?wh ?wq); (case wh => walk_at "n"))
  | ((with_reducible refine' W.w_listL ?wh ?wq); (case wh => walk_at "f"))
  | ((with_reducible refine' W.w_tupL ?wh ?wq); (case wh => walk_at "f"))
  | ((with_reducible refine' W.w_slL ?wh ?wq); (case wh => walk_at "f"))
  | ((with_reducible refine' W.w_cat ?wh ?wf ?we ?wq); (case wh => walk_at "f"); (case wf => walk_at "f"); (case we => walk_at "n"))
  | ((with_reducible refine' W.w_catT ?wh ?wf ?wx ?wy ?we ?wq); (case wh => walk_at "f"); (case wf => walk_at "f"); (case wx => exact List.cons_ne_nil _ _); (case wy => exact List.cons_ne_nil _ _); (case we => walk_at "n"))
  | ((with_reducible refine' W.w_ext ?wh ?wf ?we ?wq); (case wh => walk_at "f"); (case wf => walk_at "f"); (case we => walk_at "n"))
  | ((with_reducible refine' W.w_recv ?wh ?wq); (case wh => walk_at "f"))
  | ((with_reducible refine' W.w_isi1 ?wh ?we ?wq); (case wh => assumption); (case we => decide +kernel))
  | ((with_reducible refine' W.w_isi0 ?wh ?we ?wq); (case wh => assumption); (case we => decide +kernel))
  | ((with_reducible refine' W.w_isiT10 ?wh ?wf ?we ?wg ?wq); (case wh => assumption); (case wf => walk_at "f"); (case we => decide +kernel); (case wg => decide +kernel))
  | ((with_reducible refine' W.w_isiT01 ?wh ?wf ?we ?wg ?wq); (case wh => assumption); (case wf => walk_at "f"); (case we => decide +kernel); (case wg => decide +kernel))
  | ((with_reducible refine' W.w_isiT00 ?wh ?wf ?we ?wg ?wq); (case wh => assumption); (case wf => walk_at "f"); (case we => decide +kernel); (case wg => decide +kernel))
  | ((with_reducible refine' W.w_ins ?wh ?we ?wf ?wq); (case wh => walk_at "f"); (case we => walk_at "n"); (case wf => walk_at "c"))
  | ((with_reducible refine' W.w_unl ?wh ?we ?wq); (case wh => walk_at "f"); (case we => first | assumption | rfl))
  | ((with_reducible refine' W.ite_T ?_))
  | ((with_reducible refine' W.ite_F ?_))
  | ((with_reducible refine' W.ite_nT ?_))
  | ((with_reducible refine' W.ite_nF ?_))
  | ((with_reducible refine' W.ite_self ?_))
  | ((with_reducible refine' W.ite_nself ?_))
  | ((with_reducible refine' W.ite_tf ?_))
  | ((with_reducible refine' W.ite_ft ?_))
  | ((with_reducible refine' W.ite_ntf ?_))
  | ((with_reducible refine' W.ite_nft ?_))
  | ((with_reducible refine' And.intro ?wl ?wq); (case wl => rfl)))
local macro_rules | `(tactic| walk_at "i") => `(tactic| try (dsimp only [L2.cxOf, L2.wipe, List.map, List.set]))
local macro_rules | `(tactic| walk_at "s") => `(tactic| first | walk_at "v" | walk_at "e" | walk_at "w")
local macro_rules | `(tactic| walk_at "r") => `(tactic| repeat walk_at "s")

namespace My
open PySem L2 W
variable {P : Program} {w : World} {K : PySem.W.Frag} {mg : Str → Option Value} {base : Heap} {A : Adr}
def pdO : Option (PyData × Nat) → PyData
  | none => .none
  | some (d, q) => .tuple [d, .int (q : Int)]
theorem oV.da {H : Hp} {z : Option (PyData × Nat)} {v : V} (h : oV vDa H z v) : Da H (pdO z) v := by
  cases z with
  | none => obtain rfl : v = .non := h; exact Da.non
  | some z => obtain ⟨t, u, rfl, ht, hu⟩ := h; exact Da.tup ht (DaL.cons hu (DaL.one Da.int))
theorem pk_dep {k : Int} {ds : List Int} {d : PyData} {q : Nat} (h : pk k ds = some (d, q)) : dep d ≤ 5 := by
  unfold pk at h
  split at h
  · simp only [Option.map_eq_some_iff] at h
    obtain ⟨z, _, e⟩ := h
    cases e; exact Nat.zero_le _
  split at h
  · simp only [Option.map_eq_some_iff] at h
    obtain ⟨z, _, e⟩ := h
    cases e; exact Nat.zero_le _
  split at h
  · simp only [Option.map_eq_some_iff] at h
    obtain ⟨z, _, e⟩ := h
    cases e; exact Nat.le_trans (dep_D _) (by decide)
  split at h
  · simp only [Option.map_eq_some_iff] at h
    obtain ⟨z, _, e⟩ := h
    cases e; exact dep_Tl _
  · simp only [Option.map_eq_some_iff] at h
    obtain ⟨z, _, e⟩ := h
    cases e; exact dep_Tl _
theorem pk_wid {k : Int} {ds : List Int} {d : PyData} {q : Nat} (h : pk k ds = some (d, q)) : wid d ≤ max 6 ds.length := by
  unfold pk at h
  split at h
  · simp only [Option.map_eq_some_iff] at h
    obtain ⟨z, _, e⟩ := h
    cases e; exact Nat.zero_le _
  split at h
  · simp only [Option.map_eq_some_iff] at h
    obtain ⟨z, _, e⟩ := h
    cases e; exact Nat.zero_le _
  split at h
  · simp only [Option.map_eq_some_iff] at h
    obtain ⟨z, hz, e⟩ := h
    cases e
    have h1 := wid_D z.1
    have h2 := pdd_wd (q := z.2) hz
    omega
  split at h
  · simp only [Option.map_eq_some_iff] at h
    obtain ⟨z, hz, e⟩ := h
    cases e
    have h1 := ptrs_wd (q := z.2) hz
    exact wid_Tl h1.1 h1.2
  · simp only [Option.map_eq_some_iff] at h
    obtain ⟨z, hz, e⟩ := h
    cases e
    unfold ppk at hz
    simp only [Option.bind_eq_some_iff] at hz
    obtain ⟨y, _, hz⟩ := hz
    split at hz
    · have h1 := ptrs_wd (q := z.2) hz
      exact wid_Tl h1.1 h1.2
    · cases hz
theorem pdO_dep {k : Int} {ds : List Int} : dep (pdO (pk k ds)) ≤ 6 := by
  cases h : pk k ds with
  | none => exact Nat.zero_le _
  | some z =>
    have := pk_dep (d := z.1) (q := z.2) h
    simp only [pdO, dep, depL]; omega
theorem pdO_wid {k : Int} {ds : List Int} (hl : ds.length ≤ 1000000) : wid (pdO (pk k ds)) ≤ 16777216 := by
  cases h : pk k ds with
  | none => exact Nat.zero_le _
  | some z =>
    have := pk_wid (d := z.1) (q := z.2) h
    simp only [pdO, wid, widL, List.length_cons, List.length_nil]; omega
theorem Drw.nints {H : Hp} {a c : Addr} {ns : List Int} (D : Drw a c ns H) (x : List Int) : H a ≠ some (.lst (x.map V.int)) := by
  obtain ⟨i, b, g, _, h, _⟩ := D
  intro z
  rw [h] at z
  cases x with
  | nil => cases z
  | cons y r => cases z
theorem Drw.get {H H' : Hp} {a c p : Addr} {ns x : List Int} (D : Drw a c ns H) (k : Keep [a] H H') (h : H p = some (.lst (x.map V.int))) : H' p = some (.lst (x.map V.int)) :=
  k.get h (fun z => by simp at z; subst z; exact D.nints x h)
theorem Drw.lsts {H H' : Hp} {a c : Addr} {ns : List Int} {vs : List V} {rs : List (List Int)} (D : Drw a c ns H) (k : Keep [a] H H') (h : Lsts H vs rs) : Lsts H' vs rs := Paired.mapP h fun _ _ ⟨t, e, q⟩ => ⟨t, e, D.get k q⟩
def lD (x : List Int) : PyData := .list (x.map .int)
theorem Lsts.da {H : Hp} : ∀ {vs : List V} {rs : List (List Int)}, Paired (fun v x => ∃ t, v = V.ref t ∧ H t = some (.lst (x.map V.int))) vs rs → DaL H (rs.map lD) vs
  | _, _, .nil => DaL.nil
  | _, _, .cons ⟨t, e, h⟩ r => by
    subst e
    exact DaL.cons (Da.lst h (DaL.ints _)) (Lsts.da r)
theorem lD_dep : ∀ rs : List (List Int), depL (rs.map lD) ≤ 1
  | [] => by simp [depL]
  | x :: r => by
    show max (depL (x.map PyData.int) + 1) (depL (r.map lD)) ≤ 1
    have := lD_dep r
    rw [depL_ints]; omega
theorem lD_wid (n : Nat) : ∀ rs : List (List Int), (∀ d ∈ rs, d.length ≤ n) → widL (rs.map lD) ≤ n
  | [], _ => by simp [widL]
  | x :: r, h => by
    show max (max (x.map PyData.int).length (widL (x.map PyData.int))) (widL (r.map lD)) ≤ n
    have := lD_wid n r (fun d hd => h d (by simp [hd]))
    have := h x (by simp)
    rw [widL_ints, List.length_map]; omega
/-- what a turn of the law has at hand -/
structure SA (a c : Addr) (ns : List Int) (n : Nat) (s : List Nat) (d : Dd) (ts : List Tri) (dv : V) (tr : Addr) (us : List V) (H : Hp) : Prop where
  D : Drw a c ns H
  hd : vD H d dv
  htr : H tr = some (.lst us)
  hts : vTs H ts us
  g : Good n s d ts
  na : tr ≠ a
theorem SA.keep {a c : Addr} {ns : List Int} {n : Nat} {s : List Nat} {d : Dd} {ts : List Tri} {dv : V} {tr : Addr} {us : List V} {H H' : Hp} (h : SA a c ns n s d ts dv tr us H) (k : Keep [a] H H') (D : Drw a c ns H') : SA a c ns n s d ts dv tr us H' :=
  ⟨D, vD.keep h.hd k, k.get h.htr (by simp [h.na]), vTs.keep h.hts k, h.g, h.na⟩
theorem SA.more {a c : Addr} {ns : List Int} {n : Nat} {s : List Nat} {d : Dd} {ts : List Tri} {dv : V} {tr : Addr} {us : List V} {H H' : Hp} (h : SA a c ns n s d ts dv tr us H) (k : Keep [] H H') : SA a c ns n s d ts dv tr us H' := h.keep k.any (h.D.more k)
structure SB (a c : Addr) (ns : List Int) (n : Nat) (s : List Nat) (d : Dd) (ts : List Tri) (dv : V) (tr : Addr) (us : List V) (wr : Addr) (bs : List V) (H : Hp) : Prop where
  A : SA a c ns n s d ts dv tr us H
  hwr : H wr = some (.lst bs)
  hbs : Lsts H bs (byt n s d ts)
  nw : wr ≠ a
theorem SB.keep {a c : Addr} {ns : List Int} {n : Nat} {s : List Nat} {d : Dd} {ts : List Tri} {dv : V} {tr : Addr} {us : List V} {wr : Addr} {bs : List V} {H H' : Hp} (h : SB a c ns n s d ts dv tr us wr bs H) (k : Keep [a] H H') (D : Drw a c ns H') : SB a c ns n s d ts dv tr us wr bs H' :=
  ⟨h.A.keep k D, k.get h.hwr (by simp [h.nw]), h.A.D.lsts k h.hbs, h.nw⟩
theorem SB.more {a c : Addr} {ns : List Int} {n : Nat} {s : List Nat} {d : Dd} {ts : List Tri} {dv : V} {tr : Addr} {us : List V} {wr : Addr} {bs : List V} {H H' : Hp} (h : SB a c ns n s d ts dv tr us wr bs H) (k : Keep [] H H') : SB a c ns n s d ts dv tr us wr bs H' := h.keep k.any (h.A.D.more k)
structure SC (a c : Addr) (ns : List Int) (n : Nat) (s : List Nat) (d : Dd) (ts : List Tri) (dv : V) (tr : Addr) (us : List V) (wr : Addr) (bs : List V) (th : Addr) (H : Hp) : Prop where
  B : SB a c ns n s d ts dv tr us wr bs H
  hth : H th = some (.lst [.int (n : Int), .str (tx s), dv, .ref tr, .ref tr])
  nt : th ≠ a
theorem SC.keep {a c : Addr} {ns : List Int} {n : Nat} {s : List Nat} {d : Dd} {ts : List Tri} {dv : V} {tr : Addr} {us : List V} {wr : Addr} {bs : List V} {th : Addr} {H H' : Hp} (h : SC a c ns n s d ts dv tr us wr bs th H) (k : Keep [a] H H') (D : Drw a c ns H') : SC a c ns n s d ts dv tr us wr bs th H' :=
  ⟨h.B.keep k D, k.get h.hth (by simp [h.nt]), h.nt⟩
theorem SC.more {a c : Addr} {ns : List Int} {n : Nat} {s : List Nat} {d : Dd} {ts : List Tri} {dv : V} {tr : Addr} {us : List V} {wr : Addr} {bs : List V} {th : Addr} {H H' : Hp} (h : SC a c ns n s d ts dv tr us wr bs th H) (k : Keep [] H H') : SC a c ns n s d ts dv tr us wr bs th H' := h.keep k.any (h.B.A.D.more k)
theorem SC.da {a c : Addr} {ns : List Int} {n : Nat} {s : List Nat} {d : Dd} {ts : List Tri} {dv : V} {tr : Addr} {us : List V} {wr : Addr} {bs : List V} {th : Addr} {H : Hp} (h : SC a c ns n s d ts dv tr us wr bs th H) : DaL H (pdt n s d ts) [.int (n : Int), .str (tx s), dv, .ref tr, .ref tr] :=
  have t : Da H (pdTl ts) (.ref tr) := vTl.da ⟨tr, us, rfl, h.B.A.htr, h.B.A.hts⟩
  DaL.cons Da.int (DaL.cons Da.str (DaL.cons (vD.da h.B.A.hd) (DaL.cons t (DaL.one t))))
def sp_law (K : PySem.W.Frag) : Sp := fun vs H Q _ => ∃ (s : Addr) (ns : List Int), vs = [.ref s] ∧ SqL K H s (ns.map V.int) ∧ ns.length ≤ 63 ∧ ∀ H', Q (.bl true) H'
theorem ok_law (e : Env K mg A) : FnOk P w K mg base CX0 10 A.f_law A.d_law ["script"] (sp_law K) := by
  have G__law_next := ok__law_next (P := P) (w := w) (base := base) e
  have G__law_same := ok__law_same (P := P) (w := w) (base := base) e 7
  have G__law_drawn_number := ok__law_drawn_number (P := P) (w := w) (base := base) e
  have G__law_drawn_text := ok__law_drawn_text (P := P) (w := w) (base := base) e
  have G__law_drawn_deed := ok__law_drawn_deed (P := P) (w := w) (base := base) e
  have G__law_spoilt := ok__law_spoilt (P := P) (w := w) (base := base) e
  have G__law_told := ok__law_told (P := P) (w := w) (base := base) e
  have G__law_own := ok__law_own (P := P) (w := w) (base := base) e
  have G__law_in_a_row := ok__law_in_a_row (P := P) (w := w) (base := base) e
  have G__law_number := ok__law_number (P := P) (w := w) (base := base) e
  have G__law_text := ok__law_text (P := P) (w := w) (base := base) e
  have G__law_deed := ok__law_deed (P := P) (w := w) (base := base) e
  have G__law_triples := ok__law_triples (P := P) (w := w) (base := base) e
  have G_write_number := ok_write_number (P := P) (w := w) (base := base) e
  have G_write_string := ok_write_string (P := P) (w := w) (base := base) e
  have G_write_deed := ok_write_deed (P := P) (w := w) (base := base) e
  have G_write_triples := ok_write_triples (P := P) (w := w) (base := base) e
  have G_write_packet := ok_write_packet (P := P) (w := w) (base := base) e
  refine e.F_law.ok sc_law (fun vs H Q E h => ?_) (fun cdv AA outer s H vs Q E hr h => ?_)
  · obtain ⟨c, ns, rfl, _⟩ := h
    rfl
  · obtain ⟨c0, ns, rfl, hS, hlen, q⟩ := h
    refine ⟨_, (pss_cons (ps_set (i := 1) sc_law.nd rfl (Or.inr rfl) (pe_lst (pa_cons (pe_callTy (call_listLK (K := K)) (by rfl) e.n_list (by decide +kernel) (pa_cons (pv 0) pa_nil)) (pa_cons pe_int (pa_cons pe_int (pa_cons pe_int pa_nil))))))
    (pss_cons (ps_for PassesOwn.never rfl (pi_range1 rfl e.n_range (pa_cons pe_int pa_nil)) (pg_name (i := 2) sc_law.nd rfl (Or.inl rfl)) (pss_cons (ps_set (i := 3) sc_law.nd rfl (Or.inl rfl) (pe_call G__law_drawn_number (hr.mono (by omega)) (by rfl) e.m__law_drawn_number e.k__law_drawn_number e.b__law_drawn_number .nil pass0 (pa_cons (pv 1) pa_nil)))
    (pss_cons (ps_set (i := 4) sc_law.nd rfl (Or.inl rfl) (pe_call G__law_drawn_text (hr.mono (by omega)) (by rfl) e.m__law_drawn_text e.k__law_drawn_text e.b__law_drawn_text .nil pass0 (pa_cons (pv 1) pa_nil)))
    (pss_cons (ps_set (i := 5) sc_law.nd rfl (Or.inl rfl) (pe_call G__law_drawn_deed (hr.mono (by omega)) (by rfl) e.m__law_drawn_deed e.k__law_drawn_deed e.b__law_drawn_deed .nil pass0 (pa_cons (pv 1) pa_nil)))
    (Evl.pss_cut (ps_setLc (i := 6) (own := [("j", 7)]) (by rfl) sc_law.nd rfl rfl (sw_true rfl rfl rfl (by decide +kernel)) (pi_range1 rfl e.n_range (pa_cons (pe_call G__law_next (hr.mono (by omega)) (by rfl) e.m__law_next e.k__law_next e.b__law_next .nil pass0 (pa_cons (pv 1) (pa_cons pe_int pa_nil))) pa_nil)) (blkOk_by (own := [("j", 7)]) (N := nm_law) (sc := defScope s_law) (by decide +kernel)) (fun _ _ _ _ _ => (pg_name (i := 7) sc_law.nd rfl (Or.inl rfl))) (fun _ _ _ _ _ => pts_nil) (fun _ _ _ _ _ => (pe_tup (pa_cons (pe_call G__law_next (hr.mono (by omega)) (by rfl) e.m__law_next e.k__law_next e.b__law_next .nil pass0 (pa_cons (pv 1) (pa_cons pe_int pa_nil))) (pa_cons (pe_call G__law_drawn_number (hr.mono (by omega)) (by rfl) e.m__law_drawn_number e.k__law_drawn_number e.b__law_drawn_number .nil pass0 (pa_cons (pv 1) pa_nil)) (pa_cons (pe_call G__law_drawn_deed (hr.mono (by omega)) (by rfl) e.m__law_drawn_deed e.k__law_drawn_deed e.b__law_drawn_deed .nil pass0 (pa_cons (pv 1) pa_nil)) pa_nil))))))
    (Evl.pss_cut (ps_set (i := 8) sc_law.nd rfl (Or.inl rfl) (pe_lst (pa_cons (pe_call G_write_number (hr.mono (by omega)) (by rfl) e.m_write_number e.k_write_number e.b_write_number .nil pass0 (pa_cons (pv 3) pa_nil)) (pa_cons (pe_call G_write_string (hr.mono (by omega)) (by rfl) e.m_write_string e.k_write_string e.b_write_string .nil pass0 (pa_cons (pv 4) pa_nil)) (pa_cons (pe_call G_write_deed (hr.mono (by omega)) (by rfl) e.m_write_deed e.k_write_deed e.b_write_deed .nil pass0 (pa_cons (pv 5) pa_nil)) (pa_cons (pe_call G_write_triples (hr.mono (by omega)) (by rfl) e.m_write_triples e.k_write_triples e.b_write_triples .nil pass0 (pa_cons (pe_callTy (call_listLK (K := K)) (by rfl) e.n_list (by decide +kernel) (pa_cons (pv 6) pa_nil)) pa_nil)) (pa_cons (pe_call G_write_packet (hr.mono (by omega)) (by rfl) e.m_write_packet e.k_write_packet e.b_write_packet .nil pass0 (pa_cons (pe_callTy (call_listLK (K := K)) (by rfl) e.n_list (by decide +kernel) (pa_cons (pv 6) pa_nil)) pa_nil)) pa_nil)))))))
    (pss_cons (ps_set (i := 9) sc_law.nd rfl (Or.inl rfl) (pe_call G__law_triples (hr.mono (by omega)) (by rfl) e.m__law_triples e.k__law_triples e.b__law_triples .nil pass0 (pa_cons (pv 6) pa_nil)))
    (Evl.pss_cut (ps_if (pt_not (pt_val (pe_call G__law_same (hr.mono (by omega)) (by rfl) e.m__law_same e.k__law_same e.b__law_same .nil pass0 (pa_cons (pv 8) (pa_cons (pe_lst (pa_cons (pe_call G__law_number (hr.mono (by omega)) (by rfl) e.m__law_number e.k__law_number e.b__law_number .nil pass0 (pa_cons (pv 3) pa_nil)) (pa_cons (pe_call G__law_text (hr.mono (by omega)) (by rfl) e.m__law_text e.k__law_text e.b__law_text .nil pass0 (pa_cons (pv 4) pa_nil)) (pa_cons (pe_call G__law_deed (hr.mono (by omega)) (by rfl) e.m__law_deed e.k__law_deed e.b__law_deed .nil pass0 (pa_cons (pv 5) pa_nil)) (pa_cons (pv 9) (pa_cons (pe_op op_cat (pe_lst (pa_cons pe_int pa_nil)) (pv 9)) pa_nil)))))) pa_nil))))) (pss_one (ps_ret pe_bl)) pss_nil)
    (pss_cons (ps_set (i := 10) sc_law.nd rfl (Or.inl rfl) (pe_lst (pa_cons (pv 3) (pa_cons (pv 4) (pa_cons (pv 5) (pa_cons (pv 6) (pa_cons (pv 6) pa_nil)))))))
    (Evl.pss_cut (ps_if (pt_not (pt_val (pe_call G__law_in_a_row (hr.mono (by omega)) (by rfl) e.m__law_in_a_row e.k__law_in_a_row e.b__law_in_a_row .nil pass0 (pa_cons (pv 10) (pa_cons (pv 8) pa_nil))))) (pss_one (ps_ret pe_bl)) pss_nil)
    (pss_cons (ps_set (i := 11) sc_law.nd rfl (Or.inl rfl) (pe_op op_cat (pe_lc (own := [("j", 7)]) (by rfl) sc_law.nd (pi_range1 rfl e.n_range (pa_cons (pe_call G__law_next (hr.mono (by omega)) (by rfl) e.m__law_next e.k__law_next e.b__law_next .nil pass0 (pa_cons (pv 1) (pa_cons pe_int pa_nil))) pa_nil)) (blkOk_by (own := [("j", 7)]) (N := nm_law) (sc := defScope s_law) (by decide +kernel)) (fun _ _ _ _ _ => (pg_name (i := 7) sc_law.nd rfl (Or.inl rfl))) (fun _ _ _ _ _ => pts_nil) (fun _ _ _ _ _ => (pe_op op_add pe_int (pe_call G__law_next (hr.mono (by omega)) (by rfl) e.m__law_next e.k__law_next e.b__law_next .nil pass0 (pa_cons (pv 1) (pa_cons pe_int pa_nil)))))) (pe_lst (pa_cons (pe_call G__law_next (hr.mono (by omega)) (by rfl) e.m__law_next e.k__law_next e.b__law_next .nil pass0 (pa_cons (pv 1) (pa_cons pe_int pa_nil))) pa_nil))))
    (Evl.pss_cut (ps_if (pt_not (pt_val (pe_call G__law_same (hr.mono (by omega)) (by rfl) e.m__law_same e.k__law_same e.b__law_same .nil pass0 (pa_cons (pe_call G__law_told (hr.mono (by omega)) (by rfl) e.m__law_told e.k__law_told e.b__law_told .nil pass0 (pa_cons pe_int (pa_cons (pv 11) pa_nil))) (pa_cons (pe_call G__law_own (hr.mono (by omega)) (by rfl) e.m__law_own e.k__law_own e.b__law_own .nil pass0 (pa_cons pe_int (pa_cons (pv 11) pa_nil))) pa_nil))))) (pss_one (ps_ret pe_bl)) pss_nil)
    (pss_one (ps_for PassesOwn.never rfl (pi_range1 rfl e.n_range (pa_cons pe_int pa_nil)) (pg_name (i := 12) sc_law.nd rfl (Or.inl rfl)) (pss_cons (ps_if (pt_not (pt_val (pe_call G__law_same (hr.mono (by omega)) (by rfl) e.m__law_same e.k__law_same e.b__law_same .nil pass0 (pa_cons (pe_call G__law_told (hr.mono (by omega)) (by rfl) e.m__law_told e.k__law_told e.b__law_told .nil pass0 (pa_cons (pv 12) (pa_cons (pe_ix (ix_listK (K := K)) (pv 8) (pv 12) (fun _ _ => rfl)) pa_nil))) (pa_cons (pe_tup (pa_cons (pe_ix (ix_listK (K := K)) (pv 10) (pv 12) (fun _ _ => rfl)) (pa_cons (pe_callB (call_lenLK (K := K)) (by rfl) e.n_len (by decide +kernel) (pa_cons (pe_ix (ix_listK (K := K)) (pv 8) (pv 12) (fun _ _ => rfl)) pa_nil)) pa_nil))) pa_nil))))) (pss_one (ps_ret pe_bl)) pss_nil)
    (pss_one (ps_for PassesOwn.never rfl (pi_range1 rfl e.n_range (pa_cons pe_int pa_nil)) (pg_name (i := 7) sc_law.nd rfl (Or.inl rfl)) (pss_cons (ps_set (i := 13) sc_law.nd rfl (Or.inl rfl) (pe_call G__law_spoilt (hr.mono (by omega)) (by rfl) e.m__law_spoilt e.k__law_spoilt e.b__law_spoilt .nil pass0 (pa_cons (pv 1) (pa_cons (pe_callTy (call_listLK (K := K)) (by rfl) e.n_list (by decide +kernel) (pa_cons (pe_ix (ix_listK (K := K)) (pv 8) (pv 12) (fun _ _ => rfl)) pa_nil)) pa_nil))))
    (pss_one (ps_if (pt_not (pt_val (pe_call G__law_same (hr.mono (by omega)) (by rfl) e.m__law_same e.k__law_same e.b__law_same .nil pass0 (pa_cons (pe_call G__law_told (hr.mono (by omega)) (by rfl) e.m__law_told e.k__law_told e.b__law_told .nil pass0 (pa_cons (pv 12) (pa_cons (pv 13) pa_nil))) (pa_cons (pe_call G__law_own (hr.mono (by omega)) (by rfl) e.m__law_own e.k__law_own e.b__law_own .nil pass0 (pa_cons (pv 12) (pa_cons (pv 13) pa_nil))) pa_nil))))) (pss_one (ps_ret pe_bl)) pss_nil))))))))))))))))))))
    (pss_one (ps_ret pe_bl)))), ?_⟩
    refine enter (st_law _) ?_
    walk_at "i"
    walk_at "r"
    intro c H1 nc k1 hc
    walk_at "r"
    intro a H2 na k2 ha
    have D2 : Drw a c ns H2 := ⟨0, 0, 1, by omega, ha, k2.get hc (by simp)⟩
    clear ha hc k1 k2 hS nc na
    walk_at "r"
    refine forR1 (by omega) (by omega) (fun i σ H' => ∃ v2 v3 v4 v5 v6 v7 v8 v9 v10 v11 v12 v13, σ = [some (.ref c0), some (.ref a), v2, v3, v4, v5, v6, v7, v8, v9, v10, v11, v12, v13] ∧ Drw a c ns H')
      ⟨_, _, _, _, _, _, _, _, _, _, _, _, rfl, D2⟩ ?_ ?_
    · rintro k σ H3 hk ⟨v2, v3, v4, v5, v6, v7, v8, v9, v10, v11, v12, v13, rfl, D3⟩
      clear D2
      walk_at "r"
      refine ⟨a, c, ns, rfl, D3, fun n H4 on k4 D4 => ?_⟩
      walk_at "r"
      refine ⟨a, c, ns, rfl, D4, fun s H5 os sl k5 D5 => ?_⟩
      walk_at "r"
      refine ⟨a, c, ns, rfl, D5, fun dv d H6 hd od k6 D6 => ?_⟩
      clear k4 k5 k6 D3 D4 D5
      walk_at "r"
      refine s_cut (fun σ' H' => ∃ ts tr us, σ' = [some (.ref c0), some (.ref a), some (.int (k : Int)), some (.int (n : Int)), some (.str (tx s)), some dv, some (.ref tr), v7, v8, v9, v10, v11, v12, v13] ∧ SA a c ns n s d ts dv tr us H') ?_ ?_
      · walk_at "r"
        refine ⟨a, c, ns, 7, rfl, D6, by decide, by decide, fun x H7 x0 x1 k7 D7 => ?_⟩
        have hd7 := vD.keep hd k7
        clear hd k7
        walk_at "r"
        refine lcR1 (by omega) (by omega) (fun L i H' => Keep [a] H7 H' ∧ Drw a c ns H' ∧ ∃ (us : List V) (ts : List Tri), H' L = some (.lst us) ∧ vTs H' ts us ∧ (∀ t ∈ ts, okn t.r ∧ okn t.p ∧ small t.d) ∧ ts.length = i)
          (fun L H8 nL k8 hL => ⟨k8.any, D7.more k8, [], [], hL, Paired.nil, by simp, rfl⟩) ?_ ?_
        · rintro L i H8 nL hi ⟨k8, D8, us, ts, hL8, hT, ho, hl⟩
          have hLa := D7.fre nL
          have hul : us.length = ts.length := Paired.length hT
          walk_at "i"
          walk_at "r"
          refine ⟨a, c, ns, 9, rfl, D8, by decide, by decide, fun y H9 y0 y1 k9 D9 => ?_⟩
          obtain ⟨r, rfl⟩ := Int.eq_ofNat_of_zero_le y0
          walk_at "r"
          refine ⟨a, c, ns, rfl, D9, fun p H10 op k10 D10 => ?_⟩
          walk_at "r"
          refine ⟨a, c, ns, rfl, D10, fun ev e' H11 he oe k11 D11 => ?_⟩
          walk_at "r"
          intro t H12 nt k12 ht
          have k812 := k9.trans (k10.trans (k11.trans k12.any))
          have hL12 := k812.get hL8 (by simp [hLa.1])
          walk_at "r"
          intro H13 k13 h13
          refine ⟨(k8.trans k812).mut nL k13, (D11.more k12).mut k13 hLa, us ++ [.ref t], ts ++ [⟨r, p, e'⟩], h13, Paired.snoc (vTs.keep (vTs.keep hT k812) k13) ⟨t, ev, rfl, k13.2 _ _ ht, vD.keep (vD.keep he k12) k13⟩, ?_, by rw [List.length_append, hl]; rfl⟩
          intro z hz
          rcases List.mem_append.mp hz with hz | hz
          · exact ho z hz
          · rw [List.mem_singleton] at hz; rw [hz]; exact ⟨show r < 2 ^ 70 by omega, op, oe⟩
        · rintro L H8 nL ⟨k8, D8, us, ts, hL8, hT, ho, hl⟩
          walk_at "r"
          exact ⟨ts, L, us, rfl, D8, vD.keep hd7 k8, hL8, hT, ⟨on, os, sl, od, ho, by omega⟩, (D7.fre nL).1⟩
      rintro σ' H7 ⟨ts, tr, us, rfl, S7⟩
      clear hd D6 on os sl od
      have g := S7.g
      have glen := g.len
      have gtl := g.tl
      have gsz : (wts ts).length ≤ 15000 := wts_le g.ot g.tl
      have gsz2 : (wp ts).length ≤ 15001 := by have : (wp ts).length = (wts ts).length + 1 := by simp [wp]
                                               omega
      have gd := g.od.2
      have gs := ws_le g.os
      have gsl := g.sl
      refine s_cut (fun σ' H' => ∃ wr bs, σ' = [some (.ref c0), some (.ref a), some (.int (k : Int)), some (.int (n : Int)), some (.str (tx s)), some dv, some (.ref tr), v7, some (.ref wr), v9, v10, v11, v12, v13] ∧ SB a c ns n s d ts dv tr us wr bs H') ?_ ?_
      · walk_at "r"
        refine ⟨n, rfl, g.on.lt, fun p1 H8 n1 k8 h1 => ?_⟩
        walk_at "r"
        refine ⟨s, rfl, g.os, by omega, fun p2 H9 n2 k9 h2 => ?_⟩
        walk_at "r"
        refine ⟨dv, d, rfl, vD.keep S7.hd (k8.trans k9), g.od.1, by omega, fun p3 H10 n3 k10 h3 => ?_⟩
        have S10 := S7.more (k8.trans (k9.trans k10))
        have htr := S10.htr
        walk_at "r"
        intro l4 H11 nl4 k11 hl4
        have S11 := S10.more k11
        walk_at "r"
        refine ⟨l4, us, ts, rfl, hl4, S11.hts, g.okt, by omega, by omega, fun p4 H12 n4 k12 h4 => ?_⟩
        have S12 := S11.more k12
        have htr := S12.htr
        walk_at "r"
        intro l5 H13 nl5 k13 hl5
        have S13 := S12.more k13
        walk_at "r"
        refine ⟨l5, us, ts, rfl, hl5, S13.hts, g.okt, by omega, by omega, fun p5 H14 n5 k14 h5 => ?_⟩
        have S14 := S13.more k14
        have e4 := (k13.trans k14).get h4 (by simp)
        have e3 := (k11.trans (k12.trans (k13.trans k14))).get h3 (by simp)
        have e2 := (k10.trans (k11.trans (k12.trans (k13.trans k14)))).get h2 (by simp)
        have e1 := (k9.trans (k10.trans (k11.trans (k12.trans (k13.trans k14))))).get h1 (by simp)
        clear h1 h2 h3 h4 k8 k9 k10 k11 k12 k13 k14 S7 S10 S11 S12 S13 htr hl4 hl5
        walk_at "r"
        intro wr H15 nw k15 hw
        walk_at "r"
        exact ⟨wr, _, rfl, S14.more k15, hw, Paired.cons ⟨p1, rfl, k15.get e1 (by simp)⟩ (Paired.cons ⟨p2, rfl, k15.get e2 (by simp)⟩ (Paired.cons ⟨p3, rfl, k15.get e3 (by simp)⟩ (Paired.cons ⟨p4, rfl, k15.get e4 (by simp)⟩ (Paired.cons ⟨p5, rfl, k15.get h5 (by simp)⟩ Paired.nil)))), (S14.D.fre nw).1⟩
      rintro σ' H8 ⟨wr, bs, rfl, S8⟩
      clear S7
      have htr := S8.A.htr
      walk_at "r"
      refine ⟨tr, us, ts, rfl, htr, S8.A.hts, g.okt, by omega, by omega, fun ow H9 no k9 how => ?_⟩
      have S9 := S8.more k9
      clear S8 htr
      walk_at "r"
      refine s_cut (fun σ' H' => σ' = [some (.ref c0), some (.ref a), some (.int (k : Int)), some (.int (n : Int)), some (.str (tx s)), some dv, some (.ref tr), v7, some (.ref wr), some (.ref ow), v10, v11, v12, v13] ∧ SB a c ns n s d ts dv tr us wr bs H') ?_ ?_
      · walk_at "i"
        walk_at "r"
        refine ⟨n, rfl, g.on.lt, fun p1 H10 n1 k10 h1 => ?_⟩
        walk_at "r"
        refine ⟨s, rfl, g.os, by omega, fun p2 H11 n2 k11 h2 => ?_⟩
        walk_at "r"
        refine ⟨dv, d, rfl, vD.keep S9.A.hd (k10.trans k11), g.od.1, by omega, fun p3 H12 n3 k12 h3 => ?_⟩
        have S12 := S9.more (k10.trans (k11.trans k12))
        walk_at "r"
        intro l4 H13 nl4 k13 hl4
        have how13 := (k10.trans (k11.trans (k12.trans k13))).get how (by simp)
        walk_at "r"
        intro p5 H14 n5 k14 h5
        have S14 := S12.more (k13.trans k14)
        have e3 := (k13.trans k14).get h3 (by simp)
        have e2 := (k12.trans (k13.trans k14)).get h2 (by simp)
        have e1 := (k11.trans (k12.trans (k13.trans k14))).get h1 (by simp)
        have e4 := k14.get how13 (by simp)
        clear h1 h2 h3 k9 k10 k11 k12 k13 k14 S9 S12 how13 hl4 how
        walk_at "r"
        intro w2 H15 nw k15 hw
        have S15 := S14.more k15
        have hL2 : Lsts H15 [.ref p1, .ref p2, .ref p3, .ref ow, .ref p5] (byt n s d ts) := Paired.cons ⟨p1, rfl, k15.get e1 (by simp)⟩ (Paired.cons ⟨p2, rfl, k15.get e2 (by simp)⟩ (Paired.cons ⟨p3, rfl, k15.get e3 (by simp)⟩ (Paired.cons ⟨ow, rfl, k15.get e4 (by simp)⟩ (Paired.cons ⟨p5, rfl, by rw [k15.get h5 (by simp)]; rfl⟩ Paired.nil))))
        walk_at "r"
        refine ⟨.ref wr, .ref w2, .list ((byt n s d ts).map lD), rfl, Da.lst S15.hwr (Lsts.da S15.hbs), Da.lst hw (Lsts.da hL2), ?_, ?_, fun H16 k16 => ?_⟩
        · have := lD_dep (byt n s d ts)
          simp only [dep]; omega
        · have := lD_wid 20000 (byt n s d ts) glen
          simp only [wid, List.length_map]
          show max 5 _ ≤ _
          omega
        · walk_at "r"
          exact S15.more k16
      rintro σ' H10 ⟨rfl, S10⟩
      clear S9 how k9
      walk_at "r"
      intro th H11 nt k11 hth
      have S11 : SC a c ns n s d ts dv tr us wr bs th H11 := ⟨S10.more k11, hth, (S10.A.D.fre nt).1⟩
      clear S10 k11 hth
      walk_at "r"
      refine s_cut (fun σ' H' => σ' = [some (.ref c0), some (.ref a), some (.int (k : Int)), some (.int (n : Int)), some (.str (tx s)), some dv, some (.ref tr), v7, some (.ref wr), some (.ref ow), some (.ref th), v11, v12, v13] ∧ SC a c ns n s d ts dv tr us wr bs th H') ?_ ?_
      · walk_at "i"
        walk_at "r"
        refine ⟨th, wr, bs, n, s, d, ts, rfl, Da.lst S11.hth S11.da, S11.B.hwr, S11.B.hbs, g, fun H12 k12 => ?_⟩
        walk_at "r"
        exact S11.more k12
      rintro σ' H12 ⟨rfl, S12⟩
      clear S11
      walk_at "r"
      refine ⟨a, c, ns, 63, rfl, S12.B.A.D, by decide, by decide, fun x H13 x0 x1 k13 D13 => ?_⟩
      have S13 := S12.keep k13 D13
      clear S12 k13
      walk_at "r"
      refine lcR1 (by omega) (by omega) (fun L i H' => Keep [a] H13 H' ∧ Drw a c ns H' ∧ ∃ es : List Int, H' L = some (.lst (es.map V.int)) ∧ (∀ x ∈ es, 0 ≤ x) ∧ es.length = i)
        (fun L H14 nL k14 hL => ⟨k14.any, D13.more k14, [], hL, by simp, rfl⟩) ?_ ?_
      · rintro L i H14 nL hi ⟨k14, D14, es, hL14, ho, hl⟩
        have hLa := D13.fre nL
        walk_at "i"
        walk_at "r"
        refine ⟨a, c, ns, 128, rfl, D14, by decide, by decide, fun y H15 y0 y1 k15 D15 => ?_⟩
        have hL15 := k15.get hL14 (by simp [hLa.1])
        walk_at "r"
        intro H16 k16 h16
        refine ⟨(k14.trans k15).mut nL k16, D15.mut k16 hLa, es ++ [128 + y], by rw [h16, List.map_append]; rfl, ?_, by rw [List.length_append, hl]; rfl⟩
        intro z hz
        rcases List.mem_append.mp hz with hz | hz
        · exact ho z hz
        · rw [List.mem_singleton] at hz; omega
      rintro L H14 nL ⟨k14, D14, es, hL14, ho, hl⟩
      have S14 := S13.keep k14 D14
      clear S13 D13
      walk_at "r"
      refine ⟨a, c, ns, 3, rfl, D14, by decide, by decide, fun y H15 y0 y1 k15 D15 => ?_⟩
      have S15 := S14.keep k15 D15
      have hL15 := D14.get k15 hL14
      clear S14 hL14
      walk_at "r"
      intro l2 H16 n2 k16 h2
      have hL16 := k16.get hL15 (by simp)
      walk_at "r"
      intro lg H17 n3 k17 h3
      have S17 := S15.more (k16.trans k17)
      have hlg : H17 lg = some (.lst ((es ++ [y]).map V.int)) := by rw [h3, List.map_append]; rfl
      have hee : (es ++ [y]).length ≤ 1000000 := by rw [List.length_append, hl, List.length_singleton]; omega
      have hen : ∀ b ∈ es ++ [y], 0 ≤ b := nn_app ho (nn_cons y0 (by simp))
      generalize es ++ [y] = es2 at hlg hee hen
      clear hL15 hL16 h2 h3 S15 k14 k15 k16 k17 D14 D15 ho hl nL n2 n3
      walk_at "r"
      refine s_cut (fun σ' H' => σ' = [some (.ref c0), some (.ref a), some (.int (k : Int)), some (.int (n : Int)), some (.str (tx s)), some dv, some (.ref tr), v7, some (.ref wr), some (.ref ow), some (.ref th), some (.ref lg), v12, v13] ∧ SC a c ns n s d ts dv tr us wr bs th H') ?_ ?_
      · walk_at "i"
        walk_at "r"
        refine ⟨0, lg, es2, rfl, by decide, by decide, hlg, hee, hen, fun w1 H18 k18 hv1 => ?_⟩
        have hlg18 := k18.get hlg (by simp)
        walk_at "r"
        refine ⟨0, lg, es2, rfl, by decide, by decide, hlg18, hee, hen, fun w2 H19 k19 hv2 => ?_⟩
        walk_at "r"
        refine ⟨w1, w2, pdO (pk 0 es2), rfl, Da.mono k19.same _ _ (oV.da hv1), oV.da hv2, pdO_dep, pdO_wid hee, fun H20 k20 => ?_⟩
        walk_at "r"
        exact S17.more (k18.trans (k19.trans k20))
      rintro σ' H18 ⟨rfl, S18⟩
      clear S17 hlg
      walk_at "r"
      refine forR1 (by omega) (by omega) (fun i σ H' => ∃ v7 v12 v13, σ = [some (.ref c0), some (.ref a), some (.int (k : Int)), some (.int (n : Int)), some (.str (tx s)), some dv, some (.ref tr), v7, some (.ref wr), some (.ref ow), some (.ref th), some (.ref lg), v12, v13] ∧ SC a c ns n s d ts dv tr us wr bs th H')
        ⟨_, _, _, rfl, S18⟩ ?_ ?_
      · rintro i σ H19 hi ⟨v7, v12, v13, rfl, S19⟩
        clear S18
        have hi5 : i < 5 := by omega
        obtain ⟨b, hb⟩ : ∃ b, (byt n s d ts)[i]? = some b := ⟨_, List.getElem?_eq_getElem (show i < (byt n s d ts).length from hi5)⟩
        obtain ⟨v, hv⟩ : ∃ v, ([.int (n : Int), .str (tx s), dv, .ref tr, .ref tr] : List V)[i]? = some v := ⟨_, List.getElem?_eq_getElem (show i < 5 from hi5)⟩
        obtain ⟨x, hx, hxv⟩ := DaL.get S19.da hv
        have hpk := g.pk hb hx
        have hbm := List.mem_of_getElem? hb
        have hbl := glen b hbm
        have hbn := nn_byt b hbm
        obtain ⟨u, hu, t, rfl, ht⟩ := pd_get' S19.B.hbs hb
        have hat := atI_nat hu
        have hat2 := atI_nat hv
        have hwr := S19.B.hwr
        walk_at "r"
        refine ⟨(i : Int), t, b, rfl, by omega, by omega, ht, by omega, hbn, fun w1 H20 k20 hv1 => ?_⟩
        have hwr20 := k20.get hwr (by simp)
        have S20 := S19.more k20
        have hth20 := S20.hth
        have ht20 := k20.get ht (by simp)
        walk_at "r"
        intro tt H21 nt k21 htt
        walk_at "r"
        refine ⟨w1, .ref tt, pdO (pk i b), rfl, Da.mono k21.same _ _ (oV.da hv1), ?_, pdO_dep, pdO_wid (by omega), fun H22 k22 => ?_⟩
        · rw [hpk]
          rw [List.length_map] at htt
          exact Da.tup htt (DaL.cons (Da.mono (k20.trans k21).same _ _ hxv) (DaL.one Da.int))
        have S22 := S20.more (k21.trans k22)
        clear S19 S20 hwr hwr20 hth20 ht20 ht k20 k21 k22 hv1 htt hat2 hv hx hxv hpk
        walk_at "r"
        refine forR1 (by omega) (by omega) (fun j σ H' => ∃ v7 v13, σ = [some (.ref c0), some (.ref a), some (.int (k : Int)), some (.int (n : Int)), some (.str (tx s)), some dv, some (.ref tr), v7, some (.ref wr), some (.ref ow), some (.ref th), some (.ref lg), some (.int (i : Int)), v13] ∧ SC a c ns n s d ts dv tr us wr bs th H')
          ⟨_, _, rfl, S22⟩ ?_ ?_
        · rintro j σ H23 hj ⟨v7, v13, rfl, S23⟩
          clear S22
          have hwr := S23.B.hwr
          obtain ⟨u2, hu2, t2, e2, ht2⟩ := pd_get' S23.B.hbs hb
          rw [hu] at hu2
          cases hu2
          cases e2
          walk_at "r"
          intro l H24 nl k24 hl
          have S24 := S23.more k24
          walk_at "r"
          refine ⟨a, c, ns, l, b, rfl, S24.B.A.D, hl, by omega, (S23.B.A.D.fre nl).1, hbn, fun p H25 es np k25 D25 hp hpn hpl => ?_⟩
          have S25 := S24.keep k25 D25
          clear S23 S24 hl
          walk_at "r"
          refine ⟨(i : Int), p, es, rfl, by omega, by omega, hp, hpl, hpn, fun w1 H26 k26 hv1 => ?_⟩
          have hp26 := k26.get hp (by simp)
          walk_at "r"
          refine ⟨(i : Int), p, es, rfl, by omega, by omega, hp26, hpl, hpn, fun w2 H27 k27 hv2 => ?_⟩
          walk_at "r"
          refine ⟨w1, w2, pdO (pk i es), rfl, Da.mono k27.same _ _ (oV.da hv1), oV.da hv2, pdO_dep, pdO_wid hpl, fun H28 k28 => ?_⟩
          walk_at "r"
          exact ⟨_, _, rfl, S25.more (k26.trans (k27.trans k28))⟩
        · rintro σ H23 ⟨v7, v13, rfl, S23⟩
          exact ⟨_, _, _, rfl, S23⟩
      · rintro σ H19 ⟨v7, v12, v13, rfl, S19⟩
        exact ⟨_, _, _, _, _, _, _, _, _, _, _, _, rfl, S19.B.A.D⟩
    · rintro σ H3 ⟨v2, v3, v4, v5, v6, v7, v8, v9, v10, v11, v12, v13, rfl, D3⟩
      walk_at "r"
      exact q _
end My

end
section
set_option maxHeartbeats 8000000
namespace My
open PySem L2 W
theorem all_mk {K : PySem.W.Frag} {h : Heap} {mg : Str → Option Value} {fa : Addr} (X : K.In h) (G : h.Ns mainGlobals mg) (hfa : mg "law" = some (.ref fa))
    {C_PlanwholeError : Addr}
    {C_DamagedPacket : Addr}
    {C_Reader : Addr}
    {od0 an0 : Option Addr} {sl0 : Array (Option Value)} {oc0 kV0 dc0 pm0 cd0 ct0 : Value} {f0 : Addr}
    {od1 an1 : Option Addr} {sl1 : Array (Option Value)} {oc1 kV1 dc1 pm1 cd1 ct1 : Value} {f1 : Addr}
    {od2 an2 : Option Addr} {sl2 : Array (Option Value)} {oc2 kV2 dc2 pm2 cd2 ct2 : Value} {f2 : Addr}
    {od3 an3 : Option Addr} {sl3 : Array (Option Value)} {oc3 kV3 dc3 pm3 cd3 ct3 : Value} {f3 : Addr}
    {od4 an4 : Option Addr} {sl4 : Array (Option Value)} {oc4 kV4 dc4 pm4 cd4 ct4 : Value} {f4 : Addr}
    {od5 an5 : Option Addr} {sl5 : Array (Option Value)} {oc5 kV5 dc5 pm5 cd5 ct5 : Value} {f5 : Addr}
    {od6 an6 : Option Addr} {sl6 : Array (Option Value)} {oc6 kV6 dc6 pm6 cd6 ct6 : Value} {f6 : Addr}
    {od7 an7 : Option Addr} {sl7 : Array (Option Value)} {oc7 kV7 dc7 pm7 cd7 ct7 : Value} {f7 : Addr}
    {od8 an8 : Option Addr} {sl8 : Array (Option Value)} {oc8 kV8 dc8 pm8 cd8 ct8 : Value} {f8 : Addr}
    {od9 an9 : Option Addr} {sl9 : Array (Option Value)} {oc9 kV9 dc9 pm9 cd9 ct9 : Value} {f9 : Addr}
    {od10 an10 : Option Addr} {sl10 : Array (Option Value)} {oc10 kV10 dc10 pm10 cd10 ct10 : Value} {f10 : Addr}
    {od11 an11 : Option Addr} {sl11 : Array (Option Value)} {oc11 kV11 dc11 pm11 cd11 ct11 : Value} {f11 : Addr}
    {od12 an12 : Option Addr} {sl12 : Array (Option Value)} {oc12 kV12 dc12 pm12 cd12 ct12 : Value} {f12 : Addr}
    {od13 an13 : Option Addr} {sl13 : Array (Option Value)} {oc13 kV13 dc13 pm13 cd13 ct13 : Value} {f13 : Addr}
    {od14 an14 : Option Addr} {sl14 : Array (Option Value)} {oc14 kV14 dc14 pm14 cd14 ct14 : Value} {f14 : Addr}
    {od15 an15 : Option Addr} {sl15 : Array (Option Value)} {oc15 kV15 dc15 pm15 cd15 ct15 : Value} {f15 : Addr}
    {od16 an16 : Option Addr} {sl16 : Array (Option Value)} {oc16 kV16 dc16 pm16 cd16 ct16 : Value} {f16 : Addr}
    {od17 an17 : Option Addr} {sl17 : Array (Option Value)} {oc17 kV17 dc17 pm17 cd17 ct17 : Value} {f17 : Addr}
    {od18 an18 : Option Addr} {sl18 : Array (Option Value)} {oc18 kV18 dc18 pm18 cd18 ct18 : Value} {f18 : Addr}
    {od19 an19 : Option Addr} {sl19 : Array (Option Value)} {oc19 kV19 dc19 pm19 cd19 ct19 : Value} {f19 : Addr}
    {od20 an20 : Option Addr} {sl20 : Array (Option Value)} {oc20 kV20 dc20 pm20 cd20 ct20 : Value} {f20 : Addr}
    {od21 an21 : Option Addr} {sl21 : Array (Option Value)} {oc21 kV21 dc21 pm21 cd21 ct21 : Value} {f21 : Addr}
    {od22 an22 : Option Addr} {sl22 : Array (Option Value)} {oc22 kV22 dc22 pm22 cd22 ct22 : Value} {f22 : Addr}
    {od23 an23 : Option Addr} {sl23 : Array (Option Value)} {oc23 kV23 dc23 pm23 cd23 ct23 : Value} {f23 : Addr}
    {od24 an24 : Option Addr} {sl24 : Array (Option Value)} {oc24 kV24 dc24 pm24 cd24 ct24 : Value} {f24 : Addr}
    {od25 an25 : Option Addr} {sl25 : Array (Option Value)} {oc25 kV25 dc25 pm25 cd25 ct25 : Value} {f25 : Addr}
    {od26 an26 : Option Addr} {sl26 : Array (Option Value)} {oc26 kV26 dc26 pm26 cd26 ct26 : Value} {f26 : Addr}
    {od27 an27 : Option Addr} {sl27 : Array (Option Value)} {oc27 kV27 dc27 pm27 cd27 ct27 : Value} {f27 : Addr}
    {od28 an28 : Option Addr} {sl28 : Array (Option Value)} {oc28 kV28 dc28 pm28 cd28 ct28 : Value} {f28 : Addr}
    {od29 an29 : Option Addr} {sl29 : Array (Option Value)} {oc29 kV29 dc29 pm29 cd29 ct29 : Value} {f29 : Addr}
    {od30 an30 : Option Addr} {sl30 : Array (Option Value)} {oc30 kV30 dc30 pm30 cd30 ct30 : Value} {f30 : Addr}
    {od31 an31 : Option Addr} {sl31 : Array (Option Value)} {oc31 kV31 dc31 pm31 cd31 ct31 : Value} {f31 : Addr}
    {od32 an32 : Option Addr} {sl32 : Array (Option Value)} {oc32 kV32 dc32 pm32 cd32 ct32 : Value} {f32 : Addr}
    {od33 an33 : Option Addr} {sl33 : Array (Option Value)} {oc33 kV33 dc33 pm33 cd33 ct33 : Value} {f33 : Addr}
    {od34 an34 : Option Addr} {sl34 : Array (Option Value)} {oc34 kV34 dc34 pm34 cd34 ct34 : Value} {f34 : Addr}
    {od35 an35 : Option Addr} {sl35 : Array (Option Value)} {oc35 kV35 dc35 pm35 cd35 ct35 : Value} {f35 : Addr}
    {od36 an36 : Option Addr} {sl36 : Array (Option Value)} {oc36 kV36 dc36 pm36 cd36 ct36 : Value} {f36 : Addr}
    {od37 an37 : Option Addr} {sl37 : Array (Option Value)} {oc37 kV37 dc37 pm37 cd37 ct37 : Value} {f37 : Addr}
    {od38 an38 : Option Addr} {sl38 : Array (Option Value)} {oc38 kV38 dc38 pm38 cd38 ct38 : Value} {f38 : Addr}
    {od39 an39 : Option Addr} {sl39 : Array (Option Value)} {oc39 kV39 dc39 pm39 cd39 ct39 : Value} {f39 : Addr}
    {od40 an40 : Option Addr} {sl40 : Array (Option Value)} {oc40 kV40 dc40 pm40 cd40 ct40 : Value} {f40 : Addr}
    {od41 an41 : Option Addr} {sl41 : Array (Option Value)} {oc41 kV41 dc41 pm41 cd41 ct41 : Value} {f41 : Addr}
    {od42 an42 : Option Addr} {sl42 : Array (Option Value)} {oc42 kV42 dc42 pm42 cd42 ct42 : Value} {f42 : Addr}
    {od43 an43 : Option Addr} {sl43 : Array (Option Value)} {oc43 kV43 dc43 pm43 cd43 ct43 : Value} {f43 : Addr}
    {t_BEFORE_PERCENT : Tok}
    {t_AFTER_PERCENT : Tok}
    {t_NUMBER_BYTES : Tok}
    (aC_PlanwholeError : PySem.W.nsIn K mainGlobals "PlanwholeError" = some (some (.ref C_PlanwholeError)))
    (aC_DamagedPacket : PySem.W.nsIn K mainGlobals "DamagedPacket" = some (some (.ref C_DamagedPacket)))
    (aC_Reader : PySem.W.nsIn K mainGlobals "Reader" = some (some (.ref C_Reader)))
    (a0 : PySem.W.nsIn K mainGlobals "_wall" = some (some (.ref f0)))
    (l0 : K.lookup f0 = some ⟨oc0, od0, .func (PySem.W.fnOf "_wall" "_wall" (defArgs s__wall) (defBody s__wall) (defScope s__wall) .none kV0 dc0 pm0 an0 cd0 ct0), sl0⟩)
    (c0 : PySem.W.codeIn K cd0 "_wall" = true)
    (k0 : PySem.W.keepIn K (.ref f0) = true)
    (a1 : PySem.W.findIn K (.ref C_Reader) "__init__" = some (some (.ref f1)))
    (i1 : PySem.W.isFn K (.ref f1) = true)
    (l1 : K.lookup f1 = some ⟨oc1, od1, .func (PySem.W.fnOf "__init__" "Reader.__init__" (defArgs s_Reader___init__) (defBody s_Reader___init__) (defScope s_Reader___init__) .none kV1 dc1 pm1 an1 cd1 ct1), sl1⟩)
    (c1 : PySem.W.codeIn K cd1 "Reader.__init__" = true)
    (k1 : PySem.W.keepIn K (.ref f1) = true)
    (a2 : PySem.W.findIn K (.ref C_Reader) "read_byte" = some (some (.ref f2)))
    (i2 : PySem.W.isFn K (.ref f2) = true)
    (l2 : K.lookup f2 = some ⟨oc2, od2, .func (PySem.W.fnOf "read_byte" "Reader.read_byte" (defArgs s_Reader_read_byte) (defBody s_Reader_read_byte) (defScope s_Reader_read_byte) .none kV2 dc2 pm2 an2 cd2 ct2), sl2⟩)
    (c2 : PySem.W.codeIn K cd2 "Reader.read_byte" = true)
    (k2 : PySem.W.keepIn K (.ref f2) = true)
    (a3 : PySem.W.findIn K (.ref C_Reader) "read_choice" = some (some (.ref f3)))
    (i3 : PySem.W.isFn K (.ref f3) = true)
    (l3 : K.lookup f3 = some ⟨oc3, od3, .func (PySem.W.fnOf "read_choice" "Reader.read_choice" (defArgs s_Reader_read_choice) (defBody s_Reader_read_choice) (defScope s_Reader_read_choice) .none kV3 dc3 pm3 an3 cd3 ct3), sl3⟩)
    (c3 : PySem.W.codeIn K cd3 "Reader.read_choice" = true)
    (k3 : PySem.W.keepIn K (.ref f3) = true)
    (a4 : PySem.W.findIn K (.ref C_Reader) "end" = some (some (.ref f4)))
    (i4 : PySem.W.isFn K (.ref f4) = true)
    (l4 : K.lookup f4 = some ⟨oc4, od4, .func (PySem.W.fnOf "end" "Reader.end" (defArgs s_Reader_end) (defBody s_Reader_end) (defScope s_Reader_end) .none kV4 dc4 pm4 an4 cd4 ct4), sl4⟩)
    (c4 : PySem.W.codeIn K cd4 "Reader.end" = true)
    (k4 : PySem.W.keepIn K (.ref f4) = true)
    (a5 : PySem.W.findIn K (.ref C_Reader) "read_number" = some (some (.ref f5)))
    (i5 : PySem.W.isFn K (.ref f5) = true)
    (l5 : K.lookup f5 = some ⟨oc5, od5, .func (PySem.W.fnOf "read_number" "Reader.read_number" (defArgs s_Reader_read_number) (defBody s_Reader_read_number) (defScope s_Reader_read_number) .none kV5 dc5 pm5 an5 cd5 ct5), sl5⟩)
    (c5 : PySem.W.codeIn K cd5 "Reader.read_number" = true)
    (k5 : PySem.W.keepIn K (.ref f5) = true)
    (a6 : PySem.W.findIn K (.ref C_Reader) "read_count" = some (some (.ref f6)))
    (i6 : PySem.W.isFn K (.ref f6) = true)
    (l6 : K.lookup f6 = some ⟨oc6, od6, .func (PySem.W.fnOf "read_count" "Reader.read_count" (defArgs s_Reader_read_count) (defBody s_Reader_read_count) (defScope s_Reader_read_count) .none kV6 dc6 pm6 an6 cd6 ct6), sl6⟩)
    (c6 : PySem.W.codeIn K cd6 "Reader.read_count" = true)
    (k6 : PySem.W.keepIn K (.ref f6) = true)
    (a7 : PySem.W.findIn K (.ref C_Reader) "read_character" = some (some (.ref f7)))
    (i7 : PySem.W.isFn K (.ref f7) = true)
    (l7 : K.lookup f7 = some ⟨oc7, od7, .func (PySem.W.fnOf "read_character" "Reader.read_character" (defArgs s_Reader_read_character) (defBody s_Reader_read_character) (defScope s_Reader_read_character) .none kV7 dc7 pm7 an7 cd7 ct7), sl7⟩)
    (c7 : PySem.W.codeIn K cd7 "Reader.read_character" = true)
    (k7 : PySem.W.keepIn K (.ref f7) = true)
    (a8 : PySem.W.findIn K (.ref C_Reader) "read_string" = some (some (.ref f8)))
    (i8 : PySem.W.isFn K (.ref f8) = true)
    (l8 : K.lookup f8 = some ⟨oc8, od8, .func (PySem.W.fnOf "read_string" "Reader.read_string" (defArgs s_Reader_read_string) (defBody s_Reader_read_string) (defScope s_Reader_read_string) .none kV8 dc8 pm8 an8 cd8 ct8), sl8⟩)
    (c8 : PySem.W.codeIn K cd8 "Reader.read_string" = true)
    (k8 : PySem.W.keepIn K (.ref f8) = true)
    (a9 : PySem.W.findIn K (.ref C_Reader) "read_mark" = some (some (.ref f9)))
    (i9 : PySem.W.isFn K (.ref f9) = true)
    (l9 : K.lookup f9 = some ⟨oc9, od9, .func (PySem.W.fnOf "read_mark" "Reader.read_mark" (defArgs s_Reader_read_mark) (defBody s_Reader_read_mark) (defScope s_Reader_read_mark) .none kV9 dc9 pm9 an9 cd9 ct9), sl9⟩)
    (c9 : PySem.W.codeIn K cd9 "Reader.read_mark" = true)
    (k9 : PySem.W.keepIn K (.ref f9) = true)
    (a10 : PySem.W.findIn K (.ref C_Reader) "read_deed" = some (some (.ref f10)))
    (i10 : PySem.W.isFn K (.ref f10) = true)
    (l10 : K.lookup f10 = some ⟨oc10, od10, .func (PySem.W.fnOf "read_deed" "Reader.read_deed" (defArgs s_Reader_read_deed) (defBody s_Reader_read_deed) (defScope s_Reader_read_deed) .none kV10 dc10 pm10 an10 cd10 ct10), sl10⟩)
    (c10 : PySem.W.codeIn K cd10 "Reader.read_deed" = true)
    (k10 : PySem.W.keepIn K (.ref f10) = true)
    (a11 : PySem.W.findIn K (.ref C_Reader) "read_deeds" = some (some (.ref f11)))
    (i11 : PySem.W.isFn K (.ref f11) = true)
    (l11 : K.lookup f11 = some ⟨oc11, od11, .func (PySem.W.fnOf "read_deeds" "Reader.read_deeds" (defArgs s_Reader_read_deeds) (defBody s_Reader_read_deeds) (defScope s_Reader_read_deeds) .none kV11 dc11 pm11 an11 cd11 ct11), sl11⟩)
    (c11 : PySem.W.codeIn K cd11 "Reader.read_deeds" = true)
    (k11 : PySem.W.keepIn K (.ref f11) = true)
    (a12 : PySem.W.findIn K (.ref C_Reader) "read_triple" = some (some (.ref f12)))
    (i12 : PySem.W.isFn K (.ref f12) = true)
    (l12 : K.lookup f12 = some ⟨oc12, od12, .func (PySem.W.fnOf "read_triple" "Reader.read_triple" (defArgs s_Reader_read_triple) (defBody s_Reader_read_triple) (defScope s_Reader_read_triple) .none kV12 dc12 pm12 an12 cd12 ct12), sl12⟩)
    (c12 : PySem.W.codeIn K cd12 "Reader.read_triple" = true)
    (k12 : PySem.W.keepIn K (.ref f12) = true)
    (a13 : PySem.W.findIn K (.ref C_Reader) "read_triples" = some (some (.ref f13)))
    (i13 : PySem.W.isFn K (.ref f13) = true)
    (l13 : K.lookup f13 = some ⟨oc13, od13, .func (PySem.W.fnOf "read_triples" "Reader.read_triples" (defArgs s_Reader_read_triples) (defBody s_Reader_read_triples) (defScope s_Reader_read_triples) .none kV13 dc13 pm13 an13 cd13 ct13), sl13⟩)
    (c13 : PySem.W.codeIn K cd13 "Reader.read_triples" = true)
    (k13 : PySem.W.keepIn K (.ref f13) = true)
    (a14 : PySem.W.findIn K (.ref C_Reader) "read_packet" = some (some (.ref f14)))
    (i14 : PySem.W.isFn K (.ref f14) = true)
    (l14 : K.lookup f14 = some ⟨oc14, od14, .func (PySem.W.fnOf "read_packet" "Reader.read_packet" (defArgs s_Reader_read_packet) (defBody s_Reader_read_packet) (defScope s_Reader_read_packet) .none kV14 dc14 pm14 an14 cd14 ct14), sl14⟩)
    (c14 : PySem.W.codeIn K cd14 "Reader.read_packet" = true)
    (k14 : PySem.W.keepIn K (.ref f14) = true)
    (a15 : PySem.W.nsIn K mainGlobals "write_number" = some (some (.ref f15)))
    (l15 : K.lookup f15 = some ⟨oc15, od15, .func (PySem.W.fnOf "write_number" "write_number" (defArgs s_write_number) (defBody s_write_number) (defScope s_write_number) .none kV15 dc15 pm15 an15 cd15 ct15), sl15⟩)
    (c15 : PySem.W.codeIn K cd15 "write_number" = true)
    (k15 : PySem.W.keepIn K (.ref f15) = true)
    (a16 : PySem.W.nsIn K mainGlobals "write_list" = some (some (.ref f16)))
    (l16 : K.lookup f16 = some ⟨oc16, od16, .func (PySem.W.fnOf "write_list" "write_list" (defArgs s_write_list) (defBody s_write_list) (defScope s_write_list) .none kV16 dc16 pm16 an16 cd16 ct16), sl16⟩)
    (c16 : PySem.W.codeIn K cd16 "write_list" = true)
    (k16 : PySem.W.keepIn K (.ref f16) = true)
    (a17 : PySem.W.nsIn K mainGlobals "write_string" = some (some (.ref f17)))
    (l17 : K.lookup f17 = some ⟨oc17, od17, .func (PySem.W.fnOf "write_string" "write_string" (defArgs s_write_string) (defBody s_write_string) (defScope s_write_string) .none kV17 dc17 pm17 an17 cd17 ct17), sl17⟩)
    (c17 : PySem.W.codeIn K cd17 "write_string" = true)
    (k17 : PySem.W.keepIn K (.ref f17) = true)
    (a18 : PySem.W.nsIn K mainGlobals "write_mark" = some (some (.ref f18)))
    (l18 : K.lookup f18 = some ⟨oc18, od18, .func (PySem.W.fnOf "write_mark" "write_mark" (defArgs s_write_mark) (defBody s_write_mark) (defScope s_write_mark) .none kV18 dc18 pm18 an18 cd18 ct18), sl18⟩)
    (c18 : PySem.W.codeIn K cd18 "write_mark" = true)
    (k18 : PySem.W.keepIn K (.ref f18) = true)
    (a19 : PySem.W.nsIn K mainGlobals "write_deed" = some (some (.ref f19)))
    (l19 : K.lookup f19 = some ⟨oc19, od19, .func (PySem.W.fnOf "write_deed" "write_deed" (defArgs s_write_deed) (defBody s_write_deed) (defScope s_write_deed) .none kV19 dc19 pm19 an19 cd19 ct19), sl19⟩)
    (c19 : PySem.W.codeIn K cd19 "write_deed" = true)
    (k19 : PySem.W.keepIn K (.ref f19) = true)
    (a20 : PySem.W.nsIn K mainGlobals "write_triples" = some (some (.ref f20)))
    (l20 : K.lookup f20 = some ⟨oc20, od20, .func (PySem.W.fnOf "write_triples" "write_triples" (defArgs s_write_triples) (defBody s_write_triples) (defScope s_write_triples) .none kV20 dc20 pm20 an20 cd20 ct20), sl20⟩)
    (c20 : PySem.W.codeIn K cd20 "write_triples" = true)
    (k20 : PySem.W.keepIn K (.ref f20) = true)
    (a21 : PySem.W.nsIn K mainGlobals "write_packet" = some (some (.ref f21)))
    (l21 : K.lookup f21 = some ⟨oc21, od21, .func (PySem.W.fnOf "write_packet" "write_packet" (defArgs s_write_packet) (defBody s_write_packet) (defScope s_write_packet) .none kV21 dc21 pm21 an21 cd21 ct21), sl21⟩)
    (c21 : PySem.W.codeIn K cd21 "write_packet" = true)
    (k21 : PySem.W.keepIn K (.ref f21) = true)
    (a22 : PySem.W.nsIn K mainGlobals "_law_next" = some (some (.ref f22)))
    (l22 : K.lookup f22 = some ⟨oc22, od22, .func (PySem.W.fnOf "_law_next" "_law_next" (defArgs s__law_next) (defBody s__law_next) (defScope s__law_next) .none kV22 dc22 pm22 an22 cd22 ct22), sl22⟩)
    (c22 : PySem.W.codeIn K cd22 "_law_next" = true)
    (k22 : PySem.W.keepIn K (.ref f22) = true)
    (a23 : PySem.W.nsIn K mainGlobals "_law_same" = some (some (.ref f23)))
    (l23 : K.lookup f23 = some ⟨oc23, od23, .func (PySem.W.fnOf "_law_same" "_law_same" (defArgs s__law_same) (defBody s__law_same) (defScope s__law_same) .none kV23 dc23 pm23 an23 cd23 ct23), sl23⟩)
    (c23 : PySem.W.codeIn K cd23 "_law_same" = true)
    (k23 : PySem.W.keepIn K (.ref f23) = true)
    (a24 : PySem.W.nsIn K mainGlobals "_law_number" = some (some (.ref f24)))
    (l24 : K.lookup f24 = some ⟨oc24, od24, .func (PySem.W.fnOf "_law_number" "_law_number" (defArgs s__law_number) (defBody s__law_number) (defScope s__law_number) .none kV24 dc24 pm24 an24 cd24 ct24), sl24⟩)
    (c24 : PySem.W.codeIn K cd24 "_law_number" = true)
    (k24 : PySem.W.keepIn K (.ref f24) = true)
    (a25 : PySem.W.nsIn K mainGlobals "_law_text" = some (some (.ref f25)))
    (l25 : K.lookup f25 = some ⟨oc25, od25, .func (PySem.W.fnOf "_law_text" "_law_text" (defArgs s__law_text) (defBody s__law_text) (defScope s__law_text) .none kV25 dc25 pm25 an25 cd25 ct25), sl25⟩)
    (c25 : PySem.W.codeIn K cd25 "_law_text" = true)
    (k25 : PySem.W.keepIn K (.ref f25) = true)
    (a26 : PySem.W.nsIn K mainGlobals "_law_mark" = some (some (.ref f26)))
    (l26 : K.lookup f26 = some ⟨oc26, od26, .func (PySem.W.fnOf "_law_mark" "_law_mark" (defArgs s__law_mark) (defBody s__law_mark) (defScope s__law_mark) .none kV26 dc26 pm26 an26 cd26 ct26), sl26⟩)
    (c26 : PySem.W.codeIn K cd26 "_law_mark" = true)
    (k26 : PySem.W.keepIn K (.ref f26) = true)
    (a27 : PySem.W.nsIn K mainGlobals "_law_deed" = some (some (.ref f27)))
    (l27 : K.lookup f27 = some ⟨oc27, od27, .func (PySem.W.fnOf "_law_deed" "_law_deed" (defArgs s__law_deed) (defBody s__law_deed) (defScope s__law_deed) .none kV27 dc27 pm27 an27 cd27 ct27), sl27⟩)
    (c27 : PySem.W.codeIn K cd27 "_law_deed" = true)
    (k27 : PySem.W.keepIn K (.ref f27) = true)
    (a28 : PySem.W.nsIn K mainGlobals "_law_triples" = some (some (.ref f28)))
    (l28 : K.lookup f28 = some ⟨oc28, od28, .func (PySem.W.fnOf "_law_triples" "_law_triples" (defArgs s__law_triples) (defBody s__law_triples) (defScope s__law_triples) .none kV28 dc28 pm28 an28 cd28 ct28), sl28⟩)
    (c28 : PySem.W.codeIn K cd28 "_law_triples" = true)
    (k28 : PySem.W.keepIn K (.ref f28) = true)
    (a29 : PySem.W.nsIn K mainGlobals "_law_read_number" = some (some (.ref f29)))
    (l29 : K.lookup f29 = some ⟨oc29, od29, .func (PySem.W.fnOf "_law_read_number" "_law_read_number" (defArgs s__law_read_number) (defBody s__law_read_number) (defScope s__law_read_number) .none kV29 dc29 pm29 an29 cd29 ct29), sl29⟩)
    (c29 : PySem.W.codeIn K cd29 "_law_read_number" = true)
    (k29 : PySem.W.keepIn K (.ref f29) = true)
    (a30 : PySem.W.nsIn K mainGlobals "_law_sign" = some (some (.ref f30)))
    (l30 : K.lookup f30 = some ⟨oc30, od30, .func (PySem.W.fnOf "_law_sign" "_law_sign" (defArgs s__law_sign) (defBody s__law_sign) (defScope s__law_sign) .none kV30 dc30 pm30 an30 cd30 ct30), sl30⟩)
    (c30 : PySem.W.codeIn K cd30 "_law_sign" = true)
    (k30 : PySem.W.keepIn K (.ref f30) = true)
    (a31 : PySem.W.nsIn K mainGlobals "_law_read_text" = some (some (.ref f31)))
    (l31 : K.lookup f31 = some ⟨oc31, od31, .func (PySem.W.fnOf "_law_read_text" "_law_read_text" (defArgs s__law_read_text) (defBody s__law_read_text) (defScope s__law_read_text) .none kV31 dc31 pm31 an31 cd31 ct31), sl31⟩)
    (c31 : PySem.W.codeIn K cd31 "_law_read_text" = true)
    (k31 : PySem.W.keepIn K (.ref f31) = true)
    (a32 : PySem.W.nsIn K mainGlobals "_law_read_mark" = some (some (.ref f32)))
    (l32 : K.lookup f32 = some ⟨oc32, od32, .func (PySem.W.fnOf "_law_read_mark" "_law_read_mark" (defArgs s__law_read_mark) (defBody s__law_read_mark) (defScope s__law_read_mark) .none kV32 dc32 pm32 an32 cd32 ct32), sl32⟩)
    (c32 : PySem.W.codeIn K cd32 "_law_read_mark" = true)
    (k32 : PySem.W.keepIn K (.ref f32) = true)
    (a33 : PySem.W.nsIn K mainGlobals "_law_read_deed" = some (some (.ref f33)))
    (l33 : K.lookup f33 = some ⟨oc33, od33, .func (PySem.W.fnOf "_law_read_deed" "_law_read_deed" (defArgs s__law_read_deed) (defBody s__law_read_deed) (defScope s__law_read_deed) .none kV33 dc33 pm33 an33 cd33 ct33), sl33⟩)
    (c33 : PySem.W.codeIn K cd33 "_law_read_deed" = true)
    (k33 : PySem.W.keepIn K (.ref f33) = true)
    (a34 : PySem.W.nsIn K mainGlobals "_law_read_triples" = some (some (.ref f34)))
    (l34 : K.lookup f34 = some ⟨oc34, od34, .func (PySem.W.fnOf "_law_read_triples" "_law_read_triples" (defArgs s__law_read_triples) (defBody s__law_read_triples) (defScope s__law_read_triples) .none kV34 dc34 pm34 an34 cd34 ct34), sl34⟩)
    (c34 : PySem.W.codeIn K cd34 "_law_read_triples" = true)
    (k34 : PySem.W.keepIn K (.ref f34) = true)
    (a35 : PySem.W.nsIn K mainGlobals "_law_read_packet" = some (some (.ref f35)))
    (l35 : K.lookup f35 = some ⟨oc35, od35, .func (PySem.W.fnOf "_law_read_packet" "_law_read_packet" (defArgs s__law_read_packet) (defBody s__law_read_packet) (defScope s__law_read_packet) .none kV35 dc35 pm35 an35 cd35 ct35), sl35⟩)
    (c35 : PySem.W.codeIn K cd35 "_law_read_packet" = true)
    (k35 : PySem.W.keepIn K (.ref f35) = true)
    (a36 : PySem.W.nsIn K mainGlobals "_law_drawn_number" = some (some (.ref f36)))
    (l36 : K.lookup f36 = some ⟨oc36, od36, .func (PySem.W.fnOf "_law_drawn_number" "_law_drawn_number" (defArgs s__law_drawn_number) (defBody s__law_drawn_number) (defScope s__law_drawn_number) .none kV36 dc36 pm36 an36 cd36 ct36), sl36⟩)
    (c36 : PySem.W.codeIn K cd36 "_law_drawn_number" = true)
    (k36 : PySem.W.keepIn K (.ref f36) = true)
    (a37 : PySem.W.nsIn K mainGlobals "_law_drawn_text" = some (some (.ref f37)))
    (l37 : K.lookup f37 = some ⟨oc37, od37, .func (PySem.W.fnOf "_law_drawn_text" "_law_drawn_text" (defArgs s__law_drawn_text) (defBody s__law_drawn_text) (defScope s__law_drawn_text) .none kV37 dc37 pm37 an37 cd37 ct37), sl37⟩)
    (c37 : PySem.W.codeIn K cd37 "_law_drawn_text" = true)
    (k37 : PySem.W.keepIn K (.ref f37) = true)
    (a38 : PySem.W.nsIn K mainGlobals "_law_drawn_deed" = some (some (.ref f38)))
    (l38 : K.lookup f38 = some ⟨oc38, od38, .func (PySem.W.fnOf "_law_drawn_deed" "_law_drawn_deed" (defArgs s__law_drawn_deed) (defBody s__law_drawn_deed) (defScope s__law_drawn_deed) .none kV38 dc38 pm38 an38 cd38 ct38), sl38⟩)
    (c38 : PySem.W.codeIn K cd38 "_law_drawn_deed" = true)
    (k38 : PySem.W.keepIn K (.ref f38) = true)
    (a39 : PySem.W.nsIn K mainGlobals "_law_spoilt" = some (some (.ref f39)))
    (l39 : K.lookup f39 = some ⟨oc39, od39, .func (PySem.W.fnOf "_law_spoilt" "_law_spoilt" (defArgs s__law_spoilt) (defBody s__law_spoilt) (defScope s__law_spoilt) .none kV39 dc39 pm39 an39 cd39 ct39), sl39⟩)
    (c39 : PySem.W.codeIn K cd39 "_law_spoilt" = true)
    (k39 : PySem.W.keepIn K (.ref f39) = true)
    (a40 : PySem.W.nsIn K mainGlobals "_law_told" = some (some (.ref f40)))
    (l40 : K.lookup f40 = some ⟨oc40, od40, .func (PySem.W.fnOf "_law_told" "_law_told" (defArgs s__law_told) (defBody s__law_told) (defScope s__law_told) .none kV40 dc40 pm40 an40 cd40 ct40), sl40⟩)
    (c40 : PySem.W.codeIn K cd40 "_law_told" = true)
    (k40 : PySem.W.keepIn K (.ref f40) = true)
    (a41 : PySem.W.nsIn K mainGlobals "_law_own" = some (some (.ref f41)))
    (l41 : K.lookup f41 = some ⟨oc41, od41, .func (PySem.W.fnOf "_law_own" "_law_own" (defArgs s__law_own) (defBody s__law_own) (defScope s__law_own) .none kV41 dc41 pm41 an41 cd41 ct41), sl41⟩)
    (c41 : PySem.W.codeIn K cd41 "_law_own" = true)
    (k41 : PySem.W.keepIn K (.ref f41) = true)
    (a42 : PySem.W.nsIn K mainGlobals "_law_in_a_row" = some (some (.ref f42)))
    (l42 : K.lookup f42 = some ⟨oc42, od42, .func (PySem.W.fnOf "_law_in_a_row" "_law_in_a_row" (defArgs s__law_in_a_row) (defBody s__law_in_a_row) (defScope s__law_in_a_row) .none kV42 dc42 pm42 an42 cd42 ct42), sl42⟩)
    (c42 : PySem.W.codeIn K cd42 "_law_in_a_row" = true)
    (k42 : PySem.W.keepIn K (.ref f42) = true)
    (a43 : PySem.W.nsIn K mainGlobals "law" = some (some (.ref f43)))
    (l43 : K.lookup f43 = some ⟨oc43, od43, .func (PySem.W.fnOf "law" "law" (defArgs s_law) (defBody s_law) (defScope s_law) .none kV43 dc43 pm43 an43 cd43 ct43), sl43⟩)
    (c43 : PySem.W.codeIn K cd43 "law" = true)
    (k43 : PySem.W.keepIn K (.ref f43) = true)
    (pg_Reader : PySem.W.plainGet K C_Reader Str.empty = true)
    (hd_Reader : PySem.W.hasDictIn K C_Reader = true)
    (po_Reader : PySem.W.plainOver K C_Reader = true)
    (sa_Reader : PySem.W.findIn K (.ref C_Reader) "__setattr__" = some (some (.builtin "object.__setattr__")))
    (mk_Reader : PySem.W.makesIn K C_Reader = true)
    (kc_Reader : PySem.W.keepIn K (.ref C_Reader) = true)
    (x_Reader_data : PySem.W.findIn K (.ref C_Reader) "data" = some none)
    (x_Reader_at : PySem.W.findIn K (.ref C_Reader) "at" = some none)
    (xx_PlanwholeError : PySem.W.excIn K C_PlanwholeError [.type "ValueError", .type "Exception", .type "BaseException", .type "object"] "ValueError.__new__" = true)
    (kk_PlanwholeError : PySem.W.keepIn K (.ref C_PlanwholeError) = true)
    (bb_PlanwholeError : PySem.W.subIn K (.ref C_PlanwholeError) (.type "BaseException") = some true)
    (tt_PlanwholeError : PySem.W.typeIn K (.ref C_PlanwholeError) = some (.type "type"))
    (ii_PlanwholeError : PySem.W.isClsIn K C_PlanwholeError = true)
    (sub_PlanwholeError_PlanwholeError : PySem.W.subIn K (.ref C_PlanwholeError) (.ref C_PlanwholeError) = some true)
    (xx_DamagedPacket : PySem.W.excIn K C_DamagedPacket [.type "ValueError", .type "Exception", .type "BaseException", .type "object"] "ValueError.__new__" = true)
    (kk_DamagedPacket : PySem.W.keepIn K (.ref C_DamagedPacket) = true)
    (bb_DamagedPacket : PySem.W.subIn K (.ref C_DamagedPacket) (.type "BaseException") = some true)
    (tt_DamagedPacket : PySem.W.typeIn K (.ref C_DamagedPacket) = some (.type "type"))
    (ii_DamagedPacket : PySem.W.isClsIn K C_DamagedPacket = true)
    (sub_DamagedPacket_DamagedPacket : PySem.W.subIn K (.ref C_DamagedPacket) (.ref C_DamagedPacket) = some true)
    (ac_BEFORE_PERCENT : PySem.W.nsIn K mainGlobals "BEFORE_PERCENT" = some (some (.str " !\"#$" t_BEFORE_PERCENT)))
    (ac_AFTER_PERCENT : PySem.W.nsIn K mainGlobals "AFTER_PERCENT" = some (some (.str "&'()*+,-./0123456789:;<=>?@ABCDEFGHIJKLMNOPQRSTUVWXYZ[\\]^_`abcdefghijklmnopqrstuvwxyz{|}~" t_AFTER_PERCENT)))
    (ac_NUMBER_BYTES : PySem.W.nsIn K mainGlobals "NUMBER_BYTES" = some (some (.int 60 t_NUMBER_BYTES)))
    (z_bool : PySem.W.nsIn K mainGlobals "bool" = some none)
    (z_int : PySem.W.nsIn K mainGlobals "int" = some none)
    (z_isinstance : PySem.W.nsIn K mainGlobals "isinstance" = some none)
    (z_len : PySem.W.nsIn K mainGlobals "len" = some none)
    (z_list : PySem.W.nsIn K mainGlobals "list" = some none)
    (z_ord : PySem.W.nsIn K mainGlobals "ord" = some none)
    (z_range : PySem.W.nsIn K mainGlobals "range" = some none)
    (z_str : PySem.W.nsIn K mainGlobals "str" = some none)
    (z_tuple : PySem.W.nsIn K mainGlobals "tuple" = some none) :
    ∃ A : Adr, Env K mg A ∧ A.f_law = fa ∧ ∀ (s : Shared) (v : Value), BindsTo s A.d_law ⟨[v], []⟩ [("script", v)] := by
  have e := hfa.symm.trans (PySem.W.mg_of X G a43)
  cases e
  have F0 := fun_mk (st := s__wall) l0 c0 k0
  have F1 := fun_mk (st := s_Reader___init__) l1 c1 k1
  have F2 := fun_mk (st := s_Reader_read_byte) l2 c2 k2
  have F3 := fun_mk (st := s_Reader_read_choice) l3 c3 k3
  have F4 := fun_mk (st := s_Reader_end) l4 c4 k4
  have F5 := fun_mk (st := s_Reader_read_number) l5 c5 k5
  have F6 := fun_mk (st := s_Reader_read_count) l6 c6 k6
  have F7 := fun_mk (st := s_Reader_read_character) l7 c7 k7
  have F8 := fun_mk (st := s_Reader_read_string) l8 c8 k8
  have F9 := fun_mk (st := s_Reader_read_mark) l9 c9 k9
  have F10 := fun_mk (st := s_Reader_read_deed) l10 c10 k10
  have F11 := fun_mk (st := s_Reader_read_deeds) l11 c11 k11
  have F12 := fun_mk (st := s_Reader_read_triple) l12 c12 k12
  have F13 := fun_mk (st := s_Reader_read_triples) l13 c13 k13
  have F14 := fun_mk (st := s_Reader_read_packet) l14 c14 k14
  have F15 := fun_mk (st := s_write_number) l15 c15 k15
  have F16 := fun_mk (st := s_write_list) l16 c16 k16
  have F17 := fun_mk (st := s_write_string) l17 c17 k17
  have F18 := fun_mk (st := s_write_mark) l18 c18 k18
  have F19 := fun_mk (st := s_write_deed) l19 c19 k19
  have F20 := fun_mk (st := s_write_triples) l20 c20 k20
  have F21 := fun_mk (st := s_write_packet) l21 c21 k21
  have F22 := fun_mk (st := s__law_next) l22 c22 k22
  have F23 := fun_mk (st := s__law_same) l23 c23 k23
  have F24 := fun_mk (st := s__law_number) l24 c24 k24
  have F25 := fun_mk (st := s__law_text) l25 c25 k25
  have F26 := fun_mk (st := s__law_mark) l26 c26 k26
  have F27 := fun_mk (st := s__law_deed) l27 c27 k27
  have F28 := fun_mk (st := s__law_triples) l28 c28 k28
  have F29 := fun_mk (st := s__law_read_number) l29 c29 k29
  have F30 := fun_mk (st := s__law_sign) l30 c30 k30
  have F31 := fun_mk (st := s__law_read_text) l31 c31 k31
  have F32 := fun_mk (st := s__law_read_mark) l32 c32 k32
  have F33 := fun_mk (st := s__law_read_deed) l33 c33 k33
  have F34 := fun_mk (st := s__law_read_triples) l34 c34 k34
  have F35 := fun_mk (st := s__law_read_packet) l35 c35 k35
  have F36 := fun_mk (st := s__law_drawn_number) l36 c36 k36
  have F37 := fun_mk (st := s__law_drawn_text) l37 c37 k37
  have F38 := fun_mk (st := s__law_drawn_deed) l38 c38 k38
  have F39 := fun_mk (st := s__law_spoilt) l39 c39 k39
  have F40 := fun_mk (st := s__law_told) l40 c40 k40
  have F41 := fun_mk (st := s__law_own) l41 c41 k41
  have F42 := fun_mk (st := s__law_in_a_row) l42 c42 k42
  have F43 := fun_mk (st := s_law) l43 c43 k43
  exact ⟨{
      f__wall := f0,
      d__wall := (PySem.W.fnOf "_wall" "_wall" (defArgs s__wall) (defBody s__wall) (defScope s__wall) .none kV0 dc0 pm0 an0 cd0 ct0),
      f_Reader___init__ := f1,
      d_Reader___init__ := (PySem.W.fnOf "__init__" "Reader.__init__" (defArgs s_Reader___init__) (defBody s_Reader___init__) (defScope s_Reader___init__) .none kV1 dc1 pm1 an1 cd1 ct1),
      f_Reader_read_byte := f2,
      d_Reader_read_byte := (PySem.W.fnOf "read_byte" "Reader.read_byte" (defArgs s_Reader_read_byte) (defBody s_Reader_read_byte) (defScope s_Reader_read_byte) .none kV2 dc2 pm2 an2 cd2 ct2),
      f_Reader_read_choice := f3,
      d_Reader_read_choice := (PySem.W.fnOf "read_choice" "Reader.read_choice" (defArgs s_Reader_read_choice) (defBody s_Reader_read_choice) (defScope s_Reader_read_choice) .none kV3 dc3 pm3 an3 cd3 ct3),
      f_Reader_end := f4,
      d_Reader_end := (PySem.W.fnOf "end" "Reader.end" (defArgs s_Reader_end) (defBody s_Reader_end) (defScope s_Reader_end) .none kV4 dc4 pm4 an4 cd4 ct4),
      f_Reader_read_number := f5,
      d_Reader_read_number := (PySem.W.fnOf "read_number" "Reader.read_number" (defArgs s_Reader_read_number) (defBody s_Reader_read_number) (defScope s_Reader_read_number) .none kV5 dc5 pm5 an5 cd5 ct5),
      f_Reader_read_count := f6,
      d_Reader_read_count := (PySem.W.fnOf "read_count" "Reader.read_count" (defArgs s_Reader_read_count) (defBody s_Reader_read_count) (defScope s_Reader_read_count) .none kV6 dc6 pm6 an6 cd6 ct6),
      f_Reader_read_character := f7,
      d_Reader_read_character := (PySem.W.fnOf "read_character" "Reader.read_character" (defArgs s_Reader_read_character) (defBody s_Reader_read_character) (defScope s_Reader_read_character) .none kV7 dc7 pm7 an7 cd7 ct7),
      f_Reader_read_string := f8,
      d_Reader_read_string := (PySem.W.fnOf "read_string" "Reader.read_string" (defArgs s_Reader_read_string) (defBody s_Reader_read_string) (defScope s_Reader_read_string) .none kV8 dc8 pm8 an8 cd8 ct8),
      f_Reader_read_mark := f9,
      d_Reader_read_mark := (PySem.W.fnOf "read_mark" "Reader.read_mark" (defArgs s_Reader_read_mark) (defBody s_Reader_read_mark) (defScope s_Reader_read_mark) .none kV9 dc9 pm9 an9 cd9 ct9),
      f_Reader_read_deed := f10,
      d_Reader_read_deed := (PySem.W.fnOf "read_deed" "Reader.read_deed" (defArgs s_Reader_read_deed) (defBody s_Reader_read_deed) (defScope s_Reader_read_deed) .none kV10 dc10 pm10 an10 cd10 ct10),
      f_Reader_read_deeds := f11,
      d_Reader_read_deeds := (PySem.W.fnOf "read_deeds" "Reader.read_deeds" (defArgs s_Reader_read_deeds) (defBody s_Reader_read_deeds) (defScope s_Reader_read_deeds) .none kV11 dc11 pm11 an11 cd11 ct11),
      f_Reader_read_triple := f12,
      d_Reader_read_triple := (PySem.W.fnOf "read_triple" "Reader.read_triple" (defArgs s_Reader_read_triple) (defBody s_Reader_read_triple) (defScope s_Reader_read_triple) .none kV12 dc12 pm12 an12 cd12 ct12),
      f_Reader_read_triples := f13,
      d_Reader_read_triples := (PySem.W.fnOf "read_triples" "Reader.read_triples" (defArgs s_Reader_read_triples) (defBody s_Reader_read_triples) (defScope s_Reader_read_triples) .none kV13 dc13 pm13 an13 cd13 ct13),
      f_Reader_read_packet := f14,
      d_Reader_read_packet := (PySem.W.fnOf "read_packet" "Reader.read_packet" (defArgs s_Reader_read_packet) (defBody s_Reader_read_packet) (defScope s_Reader_read_packet) .none kV14 dc14 pm14 an14 cd14 ct14),
      f_write_number := f15,
      d_write_number := (PySem.W.fnOf "write_number" "write_number" (defArgs s_write_number) (defBody s_write_number) (defScope s_write_number) .none kV15 dc15 pm15 an15 cd15 ct15),
      f_write_list := f16,
      d_write_list := (PySem.W.fnOf "write_list" "write_list" (defArgs s_write_list) (defBody s_write_list) (defScope s_write_list) .none kV16 dc16 pm16 an16 cd16 ct16),
      f_write_string := f17,
      d_write_string := (PySem.W.fnOf "write_string" "write_string" (defArgs s_write_string) (defBody s_write_string) (defScope s_write_string) .none kV17 dc17 pm17 an17 cd17 ct17),
      f_write_mark := f18,
      d_write_mark := (PySem.W.fnOf "write_mark" "write_mark" (defArgs s_write_mark) (defBody s_write_mark) (defScope s_write_mark) .none kV18 dc18 pm18 an18 cd18 ct18),
      f_write_deed := f19,
      d_write_deed := (PySem.W.fnOf "write_deed" "write_deed" (defArgs s_write_deed) (defBody s_write_deed) (defScope s_write_deed) .none kV19 dc19 pm19 an19 cd19 ct19),
      f_write_triples := f20,
      d_write_triples := (PySem.W.fnOf "write_triples" "write_triples" (defArgs s_write_triples) (defBody s_write_triples) (defScope s_write_triples) .none kV20 dc20 pm20 an20 cd20 ct20),
      f_write_packet := f21,
      d_write_packet := (PySem.W.fnOf "write_packet" "write_packet" (defArgs s_write_packet) (defBody s_write_packet) (defScope s_write_packet) .none kV21 dc21 pm21 an21 cd21 ct21),
      f__law_next := f22,
      d__law_next := (PySem.W.fnOf "_law_next" "_law_next" (defArgs s__law_next) (defBody s__law_next) (defScope s__law_next) .none kV22 dc22 pm22 an22 cd22 ct22),
      f__law_same := f23,
      d__law_same := (PySem.W.fnOf "_law_same" "_law_same" (defArgs s__law_same) (defBody s__law_same) (defScope s__law_same) .none kV23 dc23 pm23 an23 cd23 ct23),
      f__law_number := f24,
      d__law_number := (PySem.W.fnOf "_law_number" "_law_number" (defArgs s__law_number) (defBody s__law_number) (defScope s__law_number) .none kV24 dc24 pm24 an24 cd24 ct24),
      f__law_text := f25,
      d__law_text := (PySem.W.fnOf "_law_text" "_law_text" (defArgs s__law_text) (defBody s__law_text) (defScope s__law_text) .none kV25 dc25 pm25 an25 cd25 ct25),
      f__law_mark := f26,
      d__law_mark := (PySem.W.fnOf "_law_mark" "_law_mark" (defArgs s__law_mark) (defBody s__law_mark) (defScope s__law_mark) .none kV26 dc26 pm26 an26 cd26 ct26),
      f__law_deed := f27,
      d__law_deed := (PySem.W.fnOf "_law_deed" "_law_deed" (defArgs s__law_deed) (defBody s__law_deed) (defScope s__law_deed) .none kV27 dc27 pm27 an27 cd27 ct27),
      f__law_triples := f28,
      d__law_triples := (PySem.W.fnOf "_law_triples" "_law_triples" (defArgs s__law_triples) (defBody s__law_triples) (defScope s__law_triples) .none kV28 dc28 pm28 an28 cd28 ct28),
      f__law_read_number := f29,
      d__law_read_number := (PySem.W.fnOf "_law_read_number" "_law_read_number" (defArgs s__law_read_number) (defBody s__law_read_number) (defScope s__law_read_number) .none kV29 dc29 pm29 an29 cd29 ct29),
      f__law_sign := f30,
      d__law_sign := (PySem.W.fnOf "_law_sign" "_law_sign" (defArgs s__law_sign) (defBody s__law_sign) (defScope s__law_sign) .none kV30 dc30 pm30 an30 cd30 ct30),
      f__law_read_text := f31,
      d__law_read_text := (PySem.W.fnOf "_law_read_text" "_law_read_text" (defArgs s__law_read_text) (defBody s__law_read_text) (defScope s__law_read_text) .none kV31 dc31 pm31 an31 cd31 ct31),
      f__law_read_mark := f32,
      d__law_read_mark := (PySem.W.fnOf "_law_read_mark" "_law_read_mark" (defArgs s__law_read_mark) (defBody s__law_read_mark) (defScope s__law_read_mark) .none kV32 dc32 pm32 an32 cd32 ct32),
      f__law_read_deed := f33,
      d__law_read_deed := (PySem.W.fnOf "_law_read_deed" "_law_read_deed" (defArgs s__law_read_deed) (defBody s__law_read_deed) (defScope s__law_read_deed) .none kV33 dc33 pm33 an33 cd33 ct33),
      f__law_read_triples := f34,
      d__law_read_triples := (PySem.W.fnOf "_law_read_triples" "_law_read_triples" (defArgs s__law_read_triples) (defBody s__law_read_triples) (defScope s__law_read_triples) .none kV34 dc34 pm34 an34 cd34 ct34),
      f__law_read_packet := f35,
      d__law_read_packet := (PySem.W.fnOf "_law_read_packet" "_law_read_packet" (defArgs s__law_read_packet) (defBody s__law_read_packet) (defScope s__law_read_packet) .none kV35 dc35 pm35 an35 cd35 ct35),
      f__law_drawn_number := f36,
      d__law_drawn_number := (PySem.W.fnOf "_law_drawn_number" "_law_drawn_number" (defArgs s__law_drawn_number) (defBody s__law_drawn_number) (defScope s__law_drawn_number) .none kV36 dc36 pm36 an36 cd36 ct36),
      f__law_drawn_text := f37,
      d__law_drawn_text := (PySem.W.fnOf "_law_drawn_text" "_law_drawn_text" (defArgs s__law_drawn_text) (defBody s__law_drawn_text) (defScope s__law_drawn_text) .none kV37 dc37 pm37 an37 cd37 ct37),
      f__law_drawn_deed := f38,
      d__law_drawn_deed := (PySem.W.fnOf "_law_drawn_deed" "_law_drawn_deed" (defArgs s__law_drawn_deed) (defBody s__law_drawn_deed) (defScope s__law_drawn_deed) .none kV38 dc38 pm38 an38 cd38 ct38),
      f__law_spoilt := f39,
      d__law_spoilt := (PySem.W.fnOf "_law_spoilt" "_law_spoilt" (defArgs s__law_spoilt) (defBody s__law_spoilt) (defScope s__law_spoilt) .none kV39 dc39 pm39 an39 cd39 ct39),
      f__law_told := f40,
      d__law_told := (PySem.W.fnOf "_law_told" "_law_told" (defArgs s__law_told) (defBody s__law_told) (defScope s__law_told) .none kV40 dc40 pm40 an40 cd40 ct40),
      f__law_own := f41,
      d__law_own := (PySem.W.fnOf "_law_own" "_law_own" (defArgs s__law_own) (defBody s__law_own) (defScope s__law_own) .none kV41 dc41 pm41 an41 cd41 ct41),
      f__law_in_a_row := f42,
      d__law_in_a_row := (PySem.W.fnOf "_law_in_a_row" "_law_in_a_row" (defArgs s__law_in_a_row) (defBody s__law_in_a_row) (defScope s__law_in_a_row) .none kV42 dc42 pm42 an42 cd42 ct42),
      f_law := fa,
      d_law := (PySem.W.fnOf "law" "law" (defArgs s_law) (defBody s_law) (defScope s_law) .none kV43 dc43 pm43 an43 cd43 ct43),
      C_PlanwholeError := C_PlanwholeError,
      C_DamagedPacket := C_DamagedPacket,
      C_Reader := C_Reader,
      v_BEFORE_PERCENT := (.str " !\"#$" t_BEFORE_PERCENT),
      v_AFTER_PERCENT := (.str "&'()*+,-./0123456789:;<=>?@ABCDEFGHIJKLMNOPQRSTUVWXYZ[\\]^_`abcdefghijklmnopqrstuvwxyz{|}~" t_AFTER_PERCENT),
      v_NUMBER_BYTES := (.int 60 t_NUMBER_BYTES) }, {
      F__wall := F0,
      b__wall := F0.binds (ps := ["k"]) fun _ _ _ _ _ _ us hl => match us, hl with | [_], _ => rfl,
      m__wall := PySem.W.mg_of X G a0,
      k__wall := k0,
      F_Reader___init__ := F1,
      b_Reader___init__ := F1.binds (ps := ["self", "data"]) fun _ _ _ _ _ _ us hl => match us, hl with | [_, _], _ => rfl,
      h_Reader___init__ := ⟨a1, i1, k1⟩,
      F_Reader_read_byte := F2,
      b_Reader_read_byte := F2.binds (ps := ["self"]) fun _ _ _ _ _ _ us hl => match us, hl with | [_], _ => rfl,
      h_Reader_read_byte := ⟨a2, i2, k2⟩,
      F_Reader_read_choice := F3,
      b_Reader_read_choice := F3.binds (ps := ["self", "count"]) fun _ _ _ _ _ _ us hl => match us, hl with | [_, _], _ => rfl,
      h_Reader_read_choice := ⟨a3, i3, k3⟩,
      F_Reader_end := F4,
      b_Reader_end := F4.binds (ps := ["self"]) fun _ _ _ _ _ _ us hl => match us, hl with | [_], _ => rfl,
      h_Reader_end := ⟨a4, i4, k4⟩,
      F_Reader_read_number := F5,
      b_Reader_read_number := F5.binds (ps := ["self"]) fun _ _ _ _ _ _ us hl => match us, hl with | [_], _ => rfl,
      h_Reader_read_number := ⟨a5, i5, k5⟩,
      F_Reader_read_count := F6,
      b_Reader_read_count := F6.binds (ps := ["self"]) fun _ _ _ _ _ _ us hl => match us, hl with | [_], _ => rfl,
      h_Reader_read_count := ⟨a6, i6, k6⟩,
      F_Reader_read_character := F7,
      b_Reader_read_character := F7.binds (ps := ["self"]) fun _ _ _ _ _ _ us hl => match us, hl with | [_], _ => rfl,
      h_Reader_read_character := ⟨a7, i7, k7⟩,
      F_Reader_read_string := F8,
      b_Reader_read_string := F8.binds (ps := ["self"]) fun _ _ _ _ _ _ us hl => match us, hl with | [_], _ => rfl,
      h_Reader_read_string := ⟨a8, i8, k8⟩,
      F_Reader_read_mark := F9,
      b_Reader_read_mark := F9.binds (ps := ["self"]) fun _ _ _ _ _ _ us hl => match us, hl with | [_], _ => rfl,
      h_Reader_read_mark := ⟨a9, i9, k9⟩,
      F_Reader_read_deed := F10,
      b_Reader_read_deed := F10.binds (ps := ["self"]) fun _ _ _ _ _ _ us hl => match us, hl with | [_], _ => rfl,
      h_Reader_read_deed := ⟨a10, i10, k10⟩,
      F_Reader_read_deeds := F11,
      b_Reader_read_deeds := F11.binds (ps := ["self"]) fun _ _ _ _ _ _ us hl => match us, hl with | [_], _ => rfl,
      h_Reader_read_deeds := ⟨a11, i11, k11⟩,
      F_Reader_read_triple := F12,
      b_Reader_read_triple := F12.binds (ps := ["self"]) fun _ _ _ _ _ _ us hl => match us, hl with | [_], _ => rfl,
      h_Reader_read_triple := ⟨a12, i12, k12⟩,
      F_Reader_read_triples := F13,
      b_Reader_read_triples := F13.binds (ps := ["self"]) fun _ _ _ _ _ _ us hl => match us, hl with | [_], _ => rfl,
      h_Reader_read_triples := ⟨a13, i13, k13⟩,
      F_Reader_read_packet := F14,
      b_Reader_read_packet := F14.binds (ps := ["self"]) fun _ _ _ _ _ _ us hl => match us, hl with | [_], _ => rfl,
      h_Reader_read_packet := ⟨a14, i14, k14⟩,
      F_write_number := F15,
      b_write_number := F15.binds (ps := ["number"]) fun _ _ _ _ _ _ us hl => match us, hl with | [_], _ => rfl,
      m_write_number := PySem.W.mg_of X G a15,
      k_write_number := k15,
      F_write_list := F16,
      b_write_list := F16.binds (ps := ["items"]) fun _ _ _ _ _ _ us hl => match us, hl with | [_], _ => rfl,
      m_write_list := PySem.W.mg_of X G a16,
      k_write_list := k16,
      F_write_string := F17,
      b_write_string := F17.binds (ps := ["text"]) fun _ _ _ _ _ _ us hl => match us, hl with | [_], _ => rfl,
      m_write_string := PySem.W.mg_of X G a17,
      k_write_string := k17,
      F_write_mark := F18,
      b_write_mark := F18.binds (ps := ["mark"]) fun _ _ _ _ _ _ us hl => match us, hl with | [_], _ => rfl,
      m_write_mark := PySem.W.mg_of X G a18,
      k_write_mark := k18,
      F_write_deed := F19,
      b_write_deed := F19.binds (ps := ["deed"]) fun _ _ _ _ _ _ us hl => match us, hl with | [_], _ => rfl,
      m_write_deed := PySem.W.mg_of X G a19,
      k_write_deed := k19,
      F_write_triples := F20,
      b_write_triples := F20.binds (ps := ["triples"]) fun _ _ _ _ _ _ us hl => match us, hl with | [_], _ => rfl,
      m_write_triples := PySem.W.mg_of X G a20,
      k_write_triples := k20,
      F_write_packet := F21,
      b_write_packet := F21.binds (ps := ["packet"]) fun _ _ _ _ _ _ us hl => match us, hl with | [_], _ => rfl,
      m_write_packet := PySem.W.mg_of X G a21,
      k_write_packet := k21,
      F__law_next := F22,
      b__law_next := F22.binds (ps := ["state", "limit"]) fun _ _ _ _ _ _ us hl => match us, hl with | [_, _], _ => rfl,
      m__law_next := PySem.W.mg_of X G a22,
      k__law_next := k22,
      F__law_same := F23,
      b__law_same := F23.binds (ps := ["actual", "expected"]) fun _ _ _ _ _ _ us hl => match us, hl with | [_, _], _ => rfl,
      m__law_same := PySem.W.mg_of X G a23,
      k__law_same := k23,
      F__law_number := F24,
      b__law_number := F24.binds (ps := ["number"]) fun _ _ _ _ _ _ us hl => match us, hl with | [_], _ => rfl,
      m__law_number := PySem.W.mg_of X G a24,
      k__law_number := k24,
      F__law_text := F25,
      b__law_text := F25.binds (ps := ["text"]) fun _ _ _ _ _ _ us hl => match us, hl with | [_], _ => rfl,
      m__law_text := PySem.W.mg_of X G a25,
      k__law_text := k25,
      F__law_mark := F26,
      b__law_mark := F26.binds (ps := ["mark"]) fun _ _ _ _ _ _ us hl => match us, hl with | [_], _ => rfl,
      m__law_mark := PySem.W.mg_of X G a26,
      k__law_mark := k26,
      F__law_deed := F27,
      b__law_deed := F27.binds (ps := ["deed"]) fun _ _ _ _ _ _ us hl => match us, hl with | [_], _ => rfl,
      m__law_deed := PySem.W.mg_of X G a27,
      k__law_deed := k27,
      F__law_triples := F28,
      b__law_triples := F28.binds (ps := ["triples"]) fun _ _ _ _ _ _ us hl => match us, hl with | [_], _ => rfl,
      m__law_triples := PySem.W.mg_of X G a28,
      k__law_triples := k28,
      F__law_read_number := F29,
      b__law_read_number := F29.binds (ps := ["data", "at"]) fun _ _ _ _ _ _ us hl => match us, hl with | [_, _], _ => rfl,
      m__law_read_number := PySem.W.mg_of X G a29,
      k__law_read_number := k29,
      F__law_sign := F30,
      b__law_sign := F30.binds (ps := ["code"]) fun _ _ _ _ _ _ us hl => match us, hl with | [_], _ => rfl,
      m__law_sign := PySem.W.mg_of X G a30,
      k__law_sign := k30,
      F__law_read_text := F31,
      b__law_read_text := F31.binds (ps := ["data", "at"]) fun _ _ _ _ _ _ us hl => match us, hl with | [_, _], _ => rfl,
      m__law_read_text := PySem.W.mg_of X G a31,
      k__law_read_text := k31,
      F__law_read_mark := F32,
      b__law_read_mark := F32.binds (ps := ["data", "at"]) fun _ _ _ _ _ _ us hl => match us, hl with | [_, _], _ => rfl,
      m__law_read_mark := PySem.W.mg_of X G a32,
      k__law_read_mark := k32,
      F__law_read_deed := F33,
      b__law_read_deed := F33.binds (ps := ["data", "at"]) fun _ _ _ _ _ _ us hl => match us, hl with | [_, _], _ => rfl,
      m__law_read_deed := PySem.W.mg_of X G a33,
      k__law_read_deed := k33,
      F__law_read_triples := F34,
      b__law_read_triples := F34.binds (ps := ["data", "at"]) fun _ _ _ _ _ _ us hl => match us, hl with | [_, _], _ => rfl,
      m__law_read_triples := PySem.W.mg_of X G a34,
      k__law_read_triples := k34,
      F__law_read_packet := F35,
      b__law_read_packet := F35.binds (ps := ["data", "at"]) fun _ _ _ _ _ _ us hl => match us, hl with | [_, _], _ => rfl,
      m__law_read_packet := PySem.W.mg_of X G a35,
      k__law_read_packet := k35,
      F__law_drawn_number := F36,
      b__law_drawn_number := F36.binds (ps := ["state"]) fun _ _ _ _ _ _ us hl => match us, hl with | [_], _ => rfl,
      m__law_drawn_number := PySem.W.mg_of X G a36,
      k__law_drawn_number := k36,
      F__law_drawn_text := F37,
      b__law_drawn_text := F37.binds (ps := ["state"]) fun _ _ _ _ _ _ us hl => match us, hl with | [_], _ => rfl,
      m__law_drawn_text := PySem.W.mg_of X G a37,
      k__law_drawn_text := k37,
      F__law_drawn_deed := F38,
      b__law_drawn_deed := F38.binds (ps := ["state"]) fun _ _ _ _ _ _ us hl => match us, hl with | [_], _ => rfl,
      m__law_drawn_deed := PySem.W.mg_of X G a38,
      k__law_drawn_deed := k38,
      F__law_spoilt := F39,
      b__law_spoilt := F39.binds (ps := ["state", "data"]) fun _ _ _ _ _ _ us hl => match us, hl with | [_, _], _ => rfl,
      m__law_spoilt := PySem.W.mg_of X G a39,
      k__law_spoilt := k39,
      F__law_told := F40,
      b__law_told := F40.binds (ps := ["kind", "data"]) fun _ _ _ _ _ _ us hl => match us, hl with | [_, _], _ => rfl,
      m__law_told := PySem.W.mg_of X G a40,
      k__law_told := k40,
      F__law_own := F41,
      b__law_own := F41.binds (ps := ["kind", "data"]) fun _ _ _ _ _ _ us hl => match us, hl with | [_, _], _ => rfl,
      m__law_own := PySem.W.mg_of X G a41,
      k__law_own := k41,
      F__law_in_a_row := F42,
      b__law_in_a_row := F42.binds (ps := ["things", "written"]) fun _ _ _ _ _ _ us hl => match us, hl with | [_, _], _ => rfl,
      m__law_in_a_row := PySem.W.mg_of X G a42,
      k__law_in_a_row := k42,
      F_law := F43,
      b_law := F43.binds (ps := ["script"]) fun _ _ _ _ _ _ us hl => match us, hl with | [_], _ => rfl,
      m_law := PySem.W.mg_of X G a43,
      k_law := k43,
      m_Reader := PySem.W.mg_of X G aC_Reader,
      c_Reader := ⟨pg_Reader, hd_Reader, po_Reader, sa_Reader⟩,
      M_Reader := ⟨mk_Reader, a1, i1, kc_Reader⟩,
      x_Reader_data := x_Reader_data,
      x_Reader_at := x_Reader_at,
      m_PlanwholeError := PySem.W.mg_of X G aC_PlanwholeError,
      xx_PlanwholeError := xx_PlanwholeError,
      kk_PlanwholeError := kk_PlanwholeError,
      bb_PlanwholeError := bb_PlanwholeError,
      tt_PlanwholeError := tt_PlanwholeError,
      ii_PlanwholeError := ii_PlanwholeError,
      sub_PlanwholeError_PlanwholeError := sub_PlanwholeError_PlanwholeError,
      m_DamagedPacket := PySem.W.mg_of X G aC_DamagedPacket,
      xx_DamagedPacket := xx_DamagedPacket,
      kk_DamagedPacket := kk_DamagedPacket,
      bb_DamagedPacket := bb_DamagedPacket,
      tt_DamagedPacket := tt_DamagedPacket,
      ii_DamagedPacket := ii_DamagedPacket,
      sub_DamagedPacket_DamagedPacket := sub_DamagedPacket_DamagedPacket,
      m_BEFORE_PERCENT := PySem.W.mg_of X G ac_BEFORE_PERCENT,
      r_BEFORE_PERCENT := ⟨_, rfl⟩,
      m_AFTER_PERCENT := PySem.W.mg_of X G ac_AFTER_PERCENT,
      r_AFTER_PERCENT := ⟨_, rfl⟩,
      m_NUMBER_BYTES := PySem.W.mg_of X G ac_NUMBER_BYTES,
      r_NUMBER_BYTES := ⟨_, rfl⟩,
      n_bool := PySem.W.mg_none_of X G z_bool,
      n_int := PySem.W.mg_none_of X G z_int,
      n_isinstance := PySem.W.mg_none_of X G z_isinstance,
      n_len := PySem.W.mg_none_of X G z_len,
      n_list := PySem.W.mg_none_of X G z_list,
      n_ord := PySem.W.mg_none_of X G z_ord,
      n_range := PySem.W.mg_none_of X G z_range,
      n_str := PySem.W.mg_none_of X G z_str,
      n_tuple := PySem.W.mg_none_of X G z_tuple }, rfl, fun s v => .of_eq rfl⟩
theorem walk {l : PySem.W.OpenLaw} {q : Program} {loose : List Str} {XP : (Str → Option Value) → Heap → Prop} {YP : World → Heap → Prop} {d : DefRec} {K : Params → PySem.W.Frag} (hn : l.most = some 63) (hdf : d.params.defaults = [])
    (hY : ∀ (w : World) (h : Heap), YP w h → (K w.params).In h)
    (F : ∀ (w : World) (mg : Str → Option Value) (fa : Addr) (h : Heap), (K w.params).In h → h.Ns mainGlobals mg → mg d.name = some (.ref fa) →
      ∃ A : Adr, Env (K w.params) mg A ∧ A.f_law = fa ∧ ∀ (s : Shared) (v : Value), BindsTo s A.d_law ⟨[v], []⟩ [("script", v)]) :
    PySem.W.WalkO q loose XP YP l.row.toRowW d [] (fun f vs => PySem.call f vs) :=
  L2.walk_of (n := 63) (k := 10) (x := "script") (CX := fun _ => CX0) (sp := fun w => sp_law (K w.params)) hn (by decide) hdf ⟨rfl, by decide, by decide⟩ hY
    (fun w mg fa h KX G hmg => by
      obtain ⟨A, e, rfl, hb⟩ := F w mg fa h KX G hmg
      exact ⟨A.d_law, hb, fun base _ _ => ok_law e⟩)
    (fun _ _ a ns hl _ hS => ⟨a, ns, rfl, hS, hl, fun _ => rfl⟩) fun _ _ _ _ _ z => z
end My
open PySem PySem.W PyProof.Rows in
set_option maxRecDepth 100000 in
set_option maxHeartbeats 0 in
theorem PySem.Challenge.cw_planwhole_k12_bytes_written_and_read_holds : PySem.Challenge.rw_planwhole_k12_bytes_written_and_read.Holds := by
  w_on; o_law; k_head; (case hw => w_witness2)
  k_fill
  refine My.walk (l := PySem.Challenge.rw_planwhole_k12_bytes_written_and_read) rfl rfl (fun w h Y => PySem.W.kIn_of Y) ?F
  case F =>
    intro w mg fa h KX G hmg
    refine' My.all_mk KX G hmg ?aC_PlanwholeError ?aC_DamagedPacket ?aC_Reader ?a0 ?l0 ?c0 ?k0 ?a1 ?i1 ?l1 ?c1 ?k1 ?a2 ?i2 ?l2 ?c2 ?k2 ?a3 ?i3 ?l3 ?c3 ?k3 ?a4 ?i4 ?l4 ?c4 ?k4 ?a5 ?i5 ?l5 ?c5 ?k5 ?a6 ?i6 ?l6 ?c6 ?k6 ?a7 ?i7 ?l7 ?c7 ?k7 ?a8 ?i8 ?l8 ?c8 ?k8 ?a9 ?i9 ?l9 ?c9 ?k9 ?a10 ?i10 ?l10 ?c10 ?k10 ?a11 ?i11 ?l11 ?c11 ?k11 ?a12 ?i12 ?l12 ?c12 ?k12 ?a13 ?i13 ?l13 ?c13 ?k13 ?a14 ?i14 ?l14 ?c14 ?k14 ?a15 ?l15 ?c15 ?k15 ?a16 ?l16 ?c16 ?k16 ?a17 ?l17 ?c17 ?k17 ?a18 ?l18 ?c18 ?k18 ?a19 ?l19 ?c19 ?k19 ?a20 ?l20 ?c20 ?k20 ?a21 ?l21 ?c21 ?k21 ?a22 ?l22 ?c22 ?k22 ?a23 ?l23 ?c23 ?k23 ?a24 ?l24 ?c24 ?k24 ?a25 ?l25 ?c25 ?k25 ?a26 ?l26 ?c26 ?k26 ?a27 ?l27 ?c27 ?k27 ?a28 ?l28 ?c28 ?k28 ?a29 ?l29 ?c29 ?k29 ?a30 ?l30 ?c30 ?k30 ?a31 ?l31 ?c31 ?k31 ?a32 ?l32 ?c32 ?k32 ?a33 ?l33 ?c33 ?k33 ?a34 ?l34 ?c34 ?k34 ?a35 ?l35 ?c35 ?k35 ?a36 ?l36 ?c36 ?k36 ?a37 ?l37 ?c37 ?k37 ?a38 ?l38 ?c38 ?k38 ?a39 ?l39 ?c39 ?k39 ?a40 ?l40 ?c40 ?k40 ?a41 ?l41 ?c41 ?k41 ?a42 ?l42 ?c42 ?k42 ?a43 ?l43 ?c43 ?k43 ?pg_Reader ?hd_Reader ?po_Reader ?sa_Reader ?mk_Reader ?kc_Reader ?x_Reader_data ?x_Reader_at ?xx_PlanwholeError ?kk_PlanwholeError ?bb_PlanwholeError ?tt_PlanwholeError ?ii_PlanwholeError ?sub_PlanwholeError_PlanwholeError ?xx_DamagedPacket ?kk_DamagedPacket ?bb_DamagedPacket ?tt_DamagedPacket ?ii_DamagedPacket ?sub_DamagedPacket_DamagedPacket ?ac_BEFORE_PERCENT ?ac_AFTER_PERCENT ?ac_NUMBER_BYTES ?z_bool ?z_int ?z_isinstance ?z_len ?z_list ?z_ord ?z_range ?z_str ?z_tuple
    (case aC_PlanwholeError => k_is)
    (case aC_DamagedPacket => k_is)
    (case aC_Reader => k_is)
    (case a0 => k_is)
    (case l0 => k_is)
    (case c0 => k_is)
    (case k0 => k_is)
    (case a1 => k_is)
    (case i1 => k_is)
    (case l1 => k_is)
    (case c1 => k_is)
    (case k1 => k_is)
    (case a2 => k_is)
    (case i2 => k_is)
    (case l2 => k_is)
    (case c2 => k_is)
    (case k2 => k_is)
    (case a3 => k_is)
    (case i3 => k_is)
    (case l3 => k_is)
    (case c3 => k_is)
    (case k3 => k_is)
    (case a4 => k_is)
    (case i4 => k_is)
    (case l4 => k_is)
    (case c4 => k_is)
    (case k4 => k_is)
    (case a5 => k_is)
    (case i5 => k_is)
    (case l5 => k_is)
    (case c5 => k_is)
    (case k5 => k_is)
    (case a6 => k_is)
    (case i6 => k_is)
    (case l6 => k_is)
    (case c6 => k_is)
    (case k6 => k_is)
    (case a7 => k_is)
    (case i7 => k_is)
    (case l7 => k_is)
    (case c7 => k_is)
    (case k7 => k_is)
    (case a8 => k_is)
    (case i8 => k_is)
    (case l8 => k_is)
    (case c8 => k_is)
    (case k8 => k_is)
    (case a9 => k_is)
    (case i9 => k_is)
    (case l9 => k_is)
    (case c9 => k_is)
    (case k9 => k_is)
    (case a10 => k_is)
    (case i10 => k_is)
    (case l10 => k_is)
    (case c10 => k_is)
    (case k10 => k_is)
    (case a11 => k_is)
    (case i11 => k_is)
    (case l11 => k_is)
    (case c11 => k_is)
    (case k11 => k_is)
    (case a12 => k_is)
    (case i12 => k_is)
    (case l12 => k_is)
    (case c12 => k_is)
    (case k12 => k_is)
    (case a13 => k_is)
    (case i13 => k_is)
    (case l13 => k_is)
    (case c13 => k_is)
    (case k13 => k_is)
    (case a14 => k_is)
    (case i14 => k_is)
    (case l14 => k_is)
    (case c14 => k_is)
    (case k14 => k_is)
    (case a15 => k_is)
    (case l15 => k_is)
    (case c15 => k_is)
    (case k15 => k_is)
    (case a16 => k_is)
    (case l16 => k_is)
    (case c16 => k_is)
    (case k16 => k_is)
    (case a17 => k_is)
    (case l17 => k_is)
    (case c17 => k_is)
    (case k17 => k_is)
    (case a18 => k_is)
    (case l18 => k_is)
    (case c18 => k_is)
    (case k18 => k_is)
    (case a19 => k_is)
    (case l19 => k_is)
    (case c19 => k_is)
    (case k19 => k_is)
    (case a20 => k_is)
    (case l20 => k_is)
    (case c20 => k_is)
    (case k20 => k_is)
    (case a21 => k_is)
    (case l21 => k_is)
    (case c21 => k_is)
    (case k21 => k_is)
    (case a22 => k_is)
    (case l22 => k_is)
    (case c22 => k_is)
    (case k22 => k_is)
    (case a23 => k_is)
    (case l23 => k_is)
    (case c23 => k_is)
    (case k23 => k_is)
    (case a24 => k_is)
    (case l24 => k_is)
    (case c24 => k_is)
    (case k24 => k_is)
    (case a25 => k_is)
    (case l25 => k_is)
    (case c25 => k_is)
    (case k25 => k_is)
    (case a26 => k_is)
    (case l26 => k_is)
    (case c26 => k_is)
    (case k26 => k_is)
    (case a27 => k_is)
    (case l27 => k_is)
    (case c27 => k_is)
    (case k27 => k_is)
    (case a28 => k_is)
    (case l28 => k_is)
    (case c28 => k_is)
    (case k28 => k_is)
    (case a29 => k_is)
    (case l29 => k_is)
    (case c29 => k_is)
    (case k29 => k_is)
    (case a30 => k_is)
    (case l30 => k_is)
    (case c30 => k_is)
    (case k30 => k_is)
    (case a31 => k_is)
    (case l31 => k_is)
    (case c31 => k_is)
    (case k31 => k_is)
    (case a32 => k_is)
    (case l32 => k_is)
    (case c32 => k_is)
    (case k32 => k_is)
    (case a33 => k_is)
    (case l33 => k_is)
    (case c33 => k_is)
    (case k33 => k_is)
    (case a34 => k_is)
    (case l34 => k_is)
    (case c34 => k_is)
    (case k34 => k_is)
    (case a35 => k_is)
    (case l35 => k_is)
    (case c35 => k_is)
    (case k35 => k_is)
    (case a36 => k_is)
    (case l36 => k_is)
    (case c36 => k_is)
    (case k36 => k_is)
    (case a37 => k_is)
    (case l37 => k_is)
    (case c37 => k_is)
    (case k37 => k_is)
    (case a38 => k_is)
    (case l38 => k_is)
    (case c38 => k_is)
    (case k38 => k_is)
    (case a39 => k_is)
    (case l39 => k_is)
    (case c39 => k_is)
    (case k39 => k_is)
    (case a40 => k_is)
    (case l40 => k_is)
    (case c40 => k_is)
    (case k40 => k_is)
    (case a41 => k_is)
    (case l41 => k_is)
    (case c41 => k_is)
    (case k41 => k_is)
    (case a42 => k_is)
    (case l42 => k_is)
    (case c42 => k_is)
    (case k42 => k_is)
    (case a43 => k_is)
    (case l43 => k_is)
    (case c43 => k_is)
    (case k43 => k_is)
    (case pg_Reader => k_is)
    (case hd_Reader => k_is)
    (case po_Reader => k_is)
    (case sa_Reader => k_is)
    (case mk_Reader => k_is)
    (case kc_Reader => k_is)
    (case x_Reader_data => k_is)
    (case x_Reader_at => k_is)
    (case xx_PlanwholeError => k_exc)
    (case kk_PlanwholeError => k_is)
    (case bb_PlanwholeError => k_is)
    (case tt_PlanwholeError => k_is)
    (case ii_PlanwholeError => k_is)
    (case sub_PlanwholeError_PlanwholeError => first | rfl | k_is)
    (case xx_DamagedPacket => k_exc)
    (case kk_DamagedPacket => k_is)
    (case bb_DamagedPacket => k_is)
    (case tt_DamagedPacket => k_is)
    (case ii_DamagedPacket => k_is)
    (case sub_DamagedPacket_DamagedPacket => first | rfl | k_is)
    (case ac_BEFORE_PERCENT => k_is)
    (case ac_AFTER_PERCENT => k_is)
    (case ac_NUMBER_BYTES => k_is)
    (case z_bool => k_is)
    (case z_int => k_is)
    (case z_isinstance => k_is)
    (case z_len => k_is)
    (case z_list => k_is)
    (case z_ord => k_is)
    (case z_range => k_is)
    (case z_str => k_is)
    (case z_tuple => k_is)

end
