import PyProof.Rows.All
import Wide.All
import OpenK.AllK
import Wide.FinOn
import HandS.ForMost
import HandS.Wide
import HandS.Iter
import HandS.Evl
import HandS.IsInst
import HandS.NoneIn
import HandS.More
import HandS.Walk
import HandS.Codes
import HandS.Exc
import HandS.ExcOwn
import HandS.TryOnly
import HandS.WordsExc
import PySem.Challenge.RW_planwhole_k11_records
set_option Elab.async false
set_option linter.all false
set_option maxRecDepth 100000
section
set_option maxHeartbeats 4000000
/-! W: readings step by step (my own layer over HandS) -/
namespace W
open PySem PySem.Spec L2

/-! ### heaps -/
/-- all but S is as it was -/
def Kp (S : List Addr) (H H' : Hp) : Prop := ∀ b, b ∉ S → H b = none ∨ H' b = H b
/-- every tuple is as it was -/
def Kt (H H' : Hp) : Prop := ∀ b xs, H b = some (.tup xs) → H' b = some (.tup xs)
def Keep (S : List Addr) (H H' : Hp) : Prop := Kp S H H' ∧ Kt H H'
theorem Keep.get {S : List Addr} {H H' : Hp} {b : Addr} {o : HO} (a : Keep S H H') (h : H b = some o) (n : b ∉ S) : H' b = some o := by
  rcases a.1 b n with e | e
  · rw [h] at e; cases e
  · rw [e]; exact h
theorem Keep.of {S : List Addr} {H H' : Hp} (a : ∀ b o, b ∉ S → H b = some o → H' b = some o) (t : Kt H H') : Keep S H H' := ⟨fun b n => by
  cases e : H b with
  | none => exact .inl rfl
  | some o => rw [a b o n e]; exact .inr rfl, t⟩
theorem Keep.refl {S : List Addr} {H : Hp} : Keep S H H := ⟨fun _ _ => .inr rfl, fun _ _ h => h⟩
theorem Keep.trans {S : List Addr} {H H1 H2 : Hp} (a : Keep S H H1) (b : Keep S H1 H2) : Keep S H H2 := Keep.of (fun c o n h => b.get (a.get h n) n) fun c xs h => b.2 c xs (a.2 c xs h)
theorem Keep.mono {S S' : List Addr} {H H' : Hp} (a : Keep S H H') (h : ∀ b ∈ S, b ∈ S') : Keep S' H H' := ⟨fun c n => a.1 c (fun q => n (h c q)), a.2⟩
theorem Keep.mut {S : List Addr} {H H1 H2 : Hp} {p : Addr} (k : Keep S H H1) (np : H p = none) (k2 : Keep [p] H1 H2) : Keep S H H2 :=
  Keep.of (fun c o n h => k2.get (k.get h n) (by
    intro z
    simp at z
    rw [z, np] at h
    cases h)) fun c xs h => k2.2 c xs (k.2 c xs h)
theorem Keep.any {S : List Addr} {H H' : Hp} (a : Keep [] H H') : Keep S H H' := a.mono (by simp)
theorem Keep.same {H H' : Hp} (a : Keep [] H H') : Same H H' := fun b o h => a.get h (by simp)
theorem Same.keep {S : List Addr} {H H' : Hp} (a : Same H H') : Keep S H H' := Keep.of (fun b o _ h => a b o h) fun b xs h => a b _ h
theorem same_new {H : Hp} {p : Addr} {o : HO} (h : H p = none) : Same H (upd H p o) := fun b u e => by rw [upd_ne (ne_of_none e h)]; exact e
theorem Keep.new {S : List Addr} {H : Hp} {p : Addr} {o : HO} (h : H p = none) : Keep S H (upd H p o) := Same.keep (same_new h)
theorem Keep.put {S : List Addr} {H : Hp} {p : Addr} {o : HO} (h : p ∈ S) (nt : ∀ xs, H p ≠ some (.tup xs)) : Keep S H (upd H p o) := Keep.of (fun b u n e => by
  rw [upd_ne (fun q => n (by rw [q]; exact h))]; exact e) fun b xs e => by
  rw [upd_ne (fun q => nt xs (by rw [← q]; exact e))]; exact e
/-- behind H0 an object that H0 does not know changes -/
theorem same_mut {H H' : Hp} {p : Addr} {o : HO} (e : Same H H') (h : H p = none) : Same H (upd H' p o) := fun b u z => by rw [upd_ne (ne_of_none z h)]; exact e b u z
/-- the heap without S -/
def hid (S : List Addr) (H : Hp) : Hp := fun b => if b ∈ S then none else H b
theorem hid_same {S : List Addr} {H : Hp} : Same (hid S H) H := fun b o h => by
  unfold hid at h; split at h
  · cases h
  · exact h
theorem Keep.hid {S : List Addr} {H H' : Hp} (a : Keep S H H') : Same (hid S H) (hid S H') := fun b o h => by
  unfold W.hid at h ⊢; split at h
  · cases h
  · next n => rw [if_neg n]; exact a.get h n
theorem hid_out {S : List Addr} {H : Hp} {b : Addr} {o : HO} (h : H b = some o) (n : b ∉ S) : hid S H b = some o := by unfold hid; rw [if_neg n]; exact h
theorem hid_in {S : List Addr} {H : Hp} {b : Addr} (n : b ∈ S) : hid S H b = none := by unfold hid; rw [if_pos n]
theorem Same.hidden {S : List Addr} {G H : Hp} (s : Same G H) (h : ∀ b ∈ S, G b = none) : Same G (hid S H) := fun b o e => by
  unfold hid; rw [if_neg (fun q => by rw [h b q] at e; cases e)]; exact s b o e
/-- behind a step that keeps all but S, what stands outside of S -/
theorem Keep.behind {S : List Addr} {G H H' : Hp} (a : Keep S H H') (s : Same G H) (h : ∀ b ∈ S, G b = none) : Same G H' := fun b o e => a.get (s b o e) (fun q => by rw [h b q] at e; cases e)
theorem Same.t {K : PySem.W.Frag} {H H' : Hp} {a : Addr} {xs : List V} (e : Same H H') (h : SqT K H a xs) : SqT K H' a xs := by
  rcases h with (h | ⟨o, h⟩) | h
  · exact .inl (.inl (e _ _ h))
  · exact .inl (.inr ⟨o, e _ _ h⟩)
  · exact .inr h

theorem Keep.put0 {H : Hp} {p : Addr} {o : HO} (nt : ∀ xs, H p ≠ some (.tup xs)) : Keep [p] H (upd H p o) := Keep.put (by simp) nt
theorem put_lst {H : Hp} {p : Addr} {o : HO} {xs : List V} (h : H p = some (.lst xs)) : Keep [p] H (upd H p o) := Keep.put0 fun ys e => by rw [h] at e; cases e
theorem put_ins {H : Hp} {p : Addr} {o : HO} {C dx : Addr} {fs : List (Str × V)} (h : H p = some (.ins C dx fs)) : Keep [p] H (upd H p o) := Keep.put0 fun ys e => by rw [h] at e; cases e
theorem carry {H0 H : Hp} {a : Addr} {o : HO} (h : H0 a = some o) (k : H0 a = some o → H a = some o) : H a = some o := k h
theorem carryL {K : PySem.W.Frag} {H0 H : Hp} {a : Addr} {xs : List V} (h : SqL K H0 a xs) (k : Keep [] H0 H) : SqL K H a xs := Same.seq k.same h
theorem carryT {K : PySem.W.Frag} {H0 H : Hp} {a : Addr} {xs : List V} (h : SqT K H0 a xs) (k : Keep [] H0 H) : SqT K H a xs := Same.t k.same h
theorem Keep.free {S : List Addr} {H H' : Hp} {p : Addr} (k : Keep S H H') (h : H' p = none) (n : p ∉ S) : H p = none := by
  cases q : H p with
  | none => rfl
  | some o => rw [k.get q n] at h; cases h
/-! ### statements -/
section
variable {t u : TS} {te ta tb : TE} {g : TG} {c : TT} {nx : St → Hp → Prop} {rt : VK} {bk ct : St → Hp → Prop} {D : Ends} {σ σ0 : St} {H : Hp} {K : PySem.W.Frag}
theorem enter {N : List Str} {vs : List V} (e : start N vs = σ0) (h : t D σ0 H) : t D (start N vs) H := by rw [e]; exact h
theorem s_seq (h : t ⟨fun σ' H' => u ⟨nx, rt, bk, ct⟩ σ' H', rt, bk, ct⟩ σ H) : tSeq t u ⟨nx, rt, bk, ct⟩ σ H := h
theorem s_cut (Mid : St → Hp → Prop) (h : t ⟨Mid, rt, bk, ct⟩ σ H) (k : ∀ σ' H', Mid σ' H' → u ⟨nx, rt, bk, ct⟩ σ' H') : Evl.tCut t u ⟨nx, rt, bk, ct⟩ σ H := ⟨Mid, h, k⟩
theorem s_asg (h : te σ H fun x H1 => g x σ H1 nx) : tAsg te g ⟨nx, rt, bk, ct⟩ σ H := h
theorem s_ret (h : te σ H rt) : tRet te ⟨nx, rt, bk, ct⟩ σ H := h
theorem s_retN (h : rt .non H) : tRetN ⟨nx, rt, bk, ct⟩ σ H := h
theorem s_drop (h : te σ H fun _ H1 => nx σ H1) : tDrop te ⟨nx, rt, bk, ct⟩ σ H := h
theorem s_if (h : c σ H fun b H1 => if b = true then t D σ H1 else u D σ H1) : tIfS c t u D σ H := h
theorem s_next (h : nx σ H) : tNext ⟨nx, rt, bk, ct⟩ σ H := h
theorem s_brk (h : bk σ H) : tBreak ⟨nx, rt, bk, ct⟩ σ H := h
theorem s_cont (h : ct σ H) : tCont ⟨nx, rt, bk, ct⟩ σ H := h
theorem s_aug {i : Nat} {ti : TIp} (h : tVar i σ H fun x _ => te σ H fun y H1 => ti x y H1 fun z H2 => gName i z σ H2 nx) : tAug i te ti ⟨nx, rt, bk, ct⟩ σ H := h
def rSetF (K : PySem.W.Frag) (f : Str) (y x : V) (H : Hp) (Q : Hp → Prop) : Prop := ∃ a C dx fs, x = .ref a ∧ H a = some (.ins C dx fs) ∧ Cls K C ∧ NoAttr K C f ∧ fs.length < 1000 ∧ Q (upd H a (.ins C dx (putF f y fs)))
theorem s_fld {f : Str} (h : tb σ H fun y H1 => ta σ H1 fun x H2 => rSetF K f y x H2 fun H3 => nx σ H3) : sFld K ta tb f ⟨nx, rt, bk, ct⟩ σ H := h
theorem w_setF {f : Str} {y : V} {a C dx : Addr} {fs : List (Str × V)} {Q : Hp → Prop} (h : H a = some (.ins C dx fs)) (c : Cls K C) (n : NoAttr K C f) (l : fs.length < 1000) (q : ∀ H1, Keep [a] H H1 → H1 a = some (.ins C dx (putF f y fs)) → Q H1) : rSetF K f y (.ref a) H Q := ⟨a, C, dx, fs, rfl, h, c, n, l, q _ (put_ins h) upd_same⟩
def rGetF (K : PySem.W.Frag) (f : Str) (x : V) (H : Hp) (Q : VK) : Prop := ∃ a C dx fs v, x = .ref a ∧ H a = some (.ins C dx fs) ∧ Cls K C ∧ NoAttr K C f ∧ fs.lookup f = some v ∧ Q v H
theorem g_sub {to ti : TE} {ts : TSet} {v : V} {P : St → Hp → Prop} (h : to σ H fun o H1 => ti σ H1 fun i H2 => ts o i v H2 fun H3 => P σ H3) : gSub to ti ts v σ H P := h
theorem e_fld {f : Str} {Q : VK} (h : ta σ H fun x H1 => rGetF K f x H1 Q) : tFld K ta f σ H Q := h
theorem w_getF {f : Str} {v : V} {a C dx : Addr} {fs : List (Str × V)} {Q : VK} (h : H a = some (.ins C dx fs)) (c : Cls K C) (n : NoAttr K C f) (l : fs.lookup f = some v) (q : Q v H) : rGetF K f (.ref a) H Q := ⟨a, C, dx, fs, v, rfl, h, c, n, l, q⟩
theorem s_fldaug {f : Str} {rd : V → V → Hp → VK → Prop} (h : ta σ H fun x H1 => ∃ a C dx fs v, x = .ref a ∧ H1 a = some (.ins C dx fs) ∧ Cls K C ∧ NoAttr K C f ∧ fs.lookup f = some v ∧
  tb σ H1 fun y H2 => rd v y H2 fun z H3 => ∃ dx' fs', H3 a = some (.ins C dx' fs') ∧ fs'.length < 1000 ∧ nx σ (upd H3 a (.ins C dx' (putF f z fs')))) : sFldAug K ta tb rd f ⟨nx, rt, bk, ct⟩ σ H := h
theorem s_augS {to ti : TE} {tget : V → V → Hp → VK → Prop} {tip : TIp} {tset : TSet} (h : to σ H fun o H1 => ti σ H1 fun i H2 => tget o i H2 fun x H3 => te σ H3 fun y H4 => tip x y H4 fun z H5 => tset o i z H5 fun H6 => nx σ H6) : tAugS to ti te tget tip tset ⟨nx, rt, bk, ct⟩ σ H := h

/-! ### targets -/
theorem g_0 {v x : V} {a : Option V} {r : St} {Q : St → Hp → Prop} (q : Q (some v :: r) H) : gName 0 v (a :: r) H Q := q
end

section
variable {σ r : St} {H : Hp} {Q : VK} {v x : V} {P : St → Hp → Prop} {a0 a1 a2 a3 a4 a5 a6 a7 a8 a9 a10 a11 a12 a13 a14 a15 a16 a17 : Option V}
theorem v0 (q : Q v H) : tVar 0 (some v :: r) H Q := ⟨v, rfl, q⟩
theorem v1 (q : Q v H) : tVar 1 (a0 :: some v :: r) H Q := ⟨v, rfl, q⟩
theorem v2 (q : Q v H) : tVar 2 (a0 :: a1 :: some v :: r) H Q := ⟨v, rfl, q⟩
theorem v3 (q : Q v H) : tVar 3 (a0 :: a1 :: a2 :: some v :: r) H Q := ⟨v, rfl, q⟩
theorem v4 (q : Q v H) : tVar 4 (a0 :: a1 :: a2 :: a3 :: some v :: r) H Q := ⟨v, rfl, q⟩
theorem v5 (q : Q v H) : tVar 5 (a0 :: a1 :: a2 :: a3 :: a4 :: some v :: r) H Q := ⟨v, rfl, q⟩
theorem v6 (q : Q v H) : tVar 6 (a0 :: a1 :: a2 :: a3 :: a4 :: a5 :: some v :: r) H Q := ⟨v, rfl, q⟩
theorem v7 (q : Q v H) : tVar 7 (a0 :: a1 :: a2 :: a3 :: a4 :: a5 :: a6 :: some v :: r) H Q := ⟨v, rfl, q⟩
theorem v8 (q : Q v H) : tVar 8 (a0 :: a1 :: a2 :: a3 :: a4 :: a5 :: a6 :: a7 :: some v :: r) H Q := ⟨v, rfl, q⟩
theorem v9 (q : Q v H) : tVar 9 (a0 :: a1 :: a2 :: a3 :: a4 :: a5 :: a6 :: a7 :: a8 :: some v :: r) H Q := ⟨v, rfl, q⟩
theorem v10 (q : Q v H) : tVar 10 (a0 :: a1 :: a2 :: a3 :: a4 :: a5 :: a6 :: a7 :: a8 :: a9 :: some v :: r) H Q := ⟨v, rfl, q⟩
theorem v11 (q : Q v H) : tVar 11 (a0 :: a1 :: a2 :: a3 :: a4 :: a5 :: a6 :: a7 :: a8 :: a9 :: a10 :: some v :: r) H Q := ⟨v, rfl, q⟩
theorem v12 (q : Q v H) : tVar 12 (a0 :: a1 :: a2 :: a3 :: a4 :: a5 :: a6 :: a7 :: a8 :: a9 :: a10 :: a11 :: some v :: r) H Q := ⟨v, rfl, q⟩
theorem v13 (q : Q v H) : tVar 13 (a0 :: a1 :: a2 :: a3 :: a4 :: a5 :: a6 :: a7 :: a8 :: a9 :: a10 :: a11 :: a12 :: some v :: r) H Q := ⟨v, rfl, q⟩
theorem v14 (q : Q v H) : tVar 14 (a0 :: a1 :: a2 :: a3 :: a4 :: a5 :: a6 :: a7 :: a8 :: a9 :: a10 :: a11 :: a12 :: a13 :: some v :: r) H Q := ⟨v, rfl, q⟩
theorem v15 (q : Q v H) : tVar 15 (a0 :: a1 :: a2 :: a3 :: a4 :: a5 :: a6 :: a7 :: a8 :: a9 :: a10 :: a11 :: a12 :: a13 :: a14 :: some v :: r) H Q := ⟨v, rfl, q⟩
theorem v16 (q : Q v H) : tVar 16 (a0 :: a1 :: a2 :: a3 :: a4 :: a5 :: a6 :: a7 :: a8 :: a9 :: a10 :: a11 :: a12 :: a13 :: a14 :: a15 :: some v :: r) H Q := ⟨v, rfl, q⟩
theorem v17 (q : Q v H) : tVar 17 (a0 :: a1 :: a2 :: a3 :: a4 :: a5 :: a6 :: a7 :: a8 :: a9 :: a10 :: a11 :: a12 :: a13 :: a14 :: a15 :: a16 :: some v :: r) H Q := ⟨v, rfl, q⟩
theorem g0 (q : P (some v :: r) H) : gName 0 v (a0 :: r) H P := q
theorem g1 (q : P (a0 :: some v :: r) H) : gName 1 v (a0 :: a1 :: r) H P := q
theorem g2 (q : P (a0 :: a1 :: some v :: r) H) : gName 2 v (a0 :: a1 :: a2 :: r) H P := q
theorem g3 (q : P (a0 :: a1 :: a2 :: some v :: r) H) : gName 3 v (a0 :: a1 :: a2 :: a3 :: r) H P := q
theorem g4 (q : P (a0 :: a1 :: a2 :: a3 :: some v :: r) H) : gName 4 v (a0 :: a1 :: a2 :: a3 :: a4 :: r) H P := q
theorem g5 (q : P (a0 :: a1 :: a2 :: a3 :: a4 :: some v :: r) H) : gName 5 v (a0 :: a1 :: a2 :: a3 :: a4 :: a5 :: r) H P := q
theorem g6 (q : P (a0 :: a1 :: a2 :: a3 :: a4 :: a5 :: some v :: r) H) : gName 6 v (a0 :: a1 :: a2 :: a3 :: a4 :: a5 :: a6 :: r) H P := q
theorem g7 (q : P (a0 :: a1 :: a2 :: a3 :: a4 :: a5 :: a6 :: some v :: r) H) : gName 7 v (a0 :: a1 :: a2 :: a3 :: a4 :: a5 :: a6 :: a7 :: r) H P := q
theorem g8 (q : P (a0 :: a1 :: a2 :: a3 :: a4 :: a5 :: a6 :: a7 :: some v :: r) H) : gName 8 v (a0 :: a1 :: a2 :: a3 :: a4 :: a5 :: a6 :: a7 :: a8 :: r) H P := q
theorem g9 (q : P (a0 :: a1 :: a2 :: a3 :: a4 :: a5 :: a6 :: a7 :: a8 :: some v :: r) H) : gName 9 v (a0 :: a1 :: a2 :: a3 :: a4 :: a5 :: a6 :: a7 :: a8 :: a9 :: r) H P := q
theorem g10 (q : P (a0 :: a1 :: a2 :: a3 :: a4 :: a5 :: a6 :: a7 :: a8 :: a9 :: some v :: r) H) : gName 10 v (a0 :: a1 :: a2 :: a3 :: a4 :: a5 :: a6 :: a7 :: a8 :: a9 :: a10 :: r) H P := q
theorem g11 (q : P (a0 :: a1 :: a2 :: a3 :: a4 :: a5 :: a6 :: a7 :: a8 :: a9 :: a10 :: some v :: r) H) : gName 11 v (a0 :: a1 :: a2 :: a3 :: a4 :: a5 :: a6 :: a7 :: a8 :: a9 :: a10 :: a11 :: r) H P := q
theorem g12 (q : P (a0 :: a1 :: a2 :: a3 :: a4 :: a5 :: a6 :: a7 :: a8 :: a9 :: a10 :: a11 :: some v :: r) H) : gName 12 v (a0 :: a1 :: a2 :: a3 :: a4 :: a5 :: a6 :: a7 :: a8 :: a9 :: a10 :: a11 :: a12 :: r) H P := q
theorem g13 (q : P (a0 :: a1 :: a2 :: a3 :: a4 :: a5 :: a6 :: a7 :: a8 :: a9 :: a10 :: a11 :: a12 :: some v :: r) H) : gName 13 v (a0 :: a1 :: a2 :: a3 :: a4 :: a5 :: a6 :: a7 :: a8 :: a9 :: a10 :: a11 :: a12 :: a13 :: r) H P := q
theorem g14 (q : P (a0 :: a1 :: a2 :: a3 :: a4 :: a5 :: a6 :: a7 :: a8 :: a9 :: a10 :: a11 :: a12 :: a13 :: some v :: r) H) : gName 14 v (a0 :: a1 :: a2 :: a3 :: a4 :: a5 :: a6 :: a7 :: a8 :: a9 :: a10 :: a11 :: a12 :: a13 :: a14 :: r) H P := q
theorem g15 (q : P (a0 :: a1 :: a2 :: a3 :: a4 :: a5 :: a6 :: a7 :: a8 :: a9 :: a10 :: a11 :: a12 :: a13 :: a14 :: some v :: r) H) : gName 15 v (a0 :: a1 :: a2 :: a3 :: a4 :: a5 :: a6 :: a7 :: a8 :: a9 :: a10 :: a11 :: a12 :: a13 :: a14 :: a15 :: r) H P := q
end

/-! ### expressions -/
section
variable {σ : St} {H : Hp} {Q : VK} {P : Bool → Hp → Prop} {G : St → Hp → Prop} {ta tb tc te : TE} {tA tB' : TT} {tr : TA} {R : List V → Hp → Prop} {K : PySem.W.Frag} {x y z v : V} {i j : Int} {r r2 : R2}
theorem e_c (q : Q v H) : tC v σ H Q := q
theorem e_op (h : ta σ H fun x H1 => tb σ H1 fun y H2 => r x y H2 Q) : tOp r ta tb σ H Q := h
theorem e_un {r : V → Hp → VK → Prop} (h : ta σ H fun x H1 => r x H1 Q) : tUn r ta σ H Q := h
theorem e_if (h : tA σ H fun c H1 => if c = true then ta σ H1 Q else tb σ H1 Q) : tIf tA ta tb σ H Q := h
theorem e_CB {r : List V → Hp → VK → Prop} (h : tr σ H fun vs H1 => r vs H1 Q) : tCB r tr σ H Q := h
theorem e_call {sp : Sp} {dvs : List V} {E : XK} (h : tr σ H fun vs H1 => sp (vs ++ dvs) H1 Q E) : tCall sp dvs E tr σ H Q := h
def rNewL (xs : List V) (H : Hp) (Q : VK) : Prop := xs.length ≤ sizeLine ∧ ∀ p, H p = none → Q (.ref p) (upd H p (.lst xs))
def rNewT (xs : List V) (H : Hp) (Q : VK) : Prop := xs.length ≤ sizeLine ∧ ∀ p, H p = none → Q (.ref p) (upd H p (.tup xs))
theorem w_newL {xs : List V} (h : xs.length ≤ sizeLine) (q : ∀ p H1, H p = none → Keep [] H H1 → H1 p = some (.lst xs) → Q (.ref p) H1) : rNewL xs H Q := ⟨h, fun p hp => q p _ hp (Keep.new hp) upd_same⟩
theorem w_newT {xs : List V} (h : xs.length ≤ sizeLine) (q : ∀ p H1, H p = none → Keep [] H H1 → H1 p = some (.tup xs) → Q (.ref p) H1) : rNewT xs H Q := ⟨h, fun p hp => q p _ hp (Keep.new hp) upd_same⟩
theorem e_lst (h : tr σ H fun xs H1 => rNewL xs H1 Q) : tLst tr σ H Q := h
theorem e_tup (h : tr σ H fun xs H1 => rNewT xs H1 Q) : tTup tr σ H Q := h
theorem a_nil (h : R [] H) : tNil σ H R := h
theorem a_cons (h : ta σ H fun x H1 => tr σ H1 fun xs H2 => R (x :: xs) H2) : tCons ta tr σ H R := h
theorem e_sl {r : V → Option Int → Option Int → Hp → VK → Prop} {tl th : TO} (h : te σ H fun x H1 => tl σ H1 fun l H2 => th σ H2 fun u H3 => r x l u H3 Q) : tSl r te tl th σ H Q := h
theorem o_none {R : Option Int → Hp → Prop} (h : R none H) : tNoPart σ H R := h
def rPart (x : V) (H : Hp) (R : Option Int → Hp → Prop) : Prop := ∃ i, x = .int i ∧ R (some i) H
theorem o_some {R : Option Int → Hp → Prop} (h : te σ H fun x H1 => rPart x H1 R) : tPart te σ H R := h
theorem w_part {R : Option Int → Hp → Prop} (h : R (some i) H) : rPart (.int i) H R := ⟨i, rfl, h⟩
def rRecv (K : PySem.W.Frag) (T : String) (x : V) (H : Hp) (R : Prop) : Prop := tyV K T x H ∧ R
theorem e_bm {T : String} {r : V → List V → Hp → VK → Prop} (h : te σ H fun x H1 => rRecv K T x H1 (tr σ H1 fun xs H2 => r x xs H2 Q)) : tBM K T r te tr σ H Q := h
theorem e_bm0 {T : String} {r : V → List V → Hp → VK → Prop} (h : te σ H fun x H1 => rRecv K T x H1 (r x [] H1 Q)) : tBM0 K T r te σ H Q := h
def rMeth (C : Addr) (m : Str) (x : V) (H : Hp) (R : Prop) : Prop := ∃ a dx fs, x = .ref a ∧ H a = some (.ins C dx fs) ∧ fs.lookup m = none ∧ R
theorem e_meth {C : Addr} {m : Str} {sp : Sp} {dvs : List V} {E : XK} (h : ta σ H fun x H1 => rMeth C m x H1 (tr σ H1 fun vs H2 => sp (x :: (vs ++ dvs)) H2 Q E)) : tMeth C m sp dvs E ta tr σ H Q := h
theorem w_meth {C : Addr} {m : Str} {a dx : Addr} {fs : List (Str × V)} {R : Prop} (h : H a = some (.ins C dx fs)) (n : fs.lookup m = none) (q : R) : rMeth C m (.ref a) H R := ⟨a, dx, fs, rfl, h, n, q⟩
def rMake (C : Addr) (sp : Sp) (vs : List V) (H : Hp) (E : XK) (Q : VK) : Prop := ∀ x dx, H x = none → H dx = none → dx ≠ x → sp (.ref x :: vs) (upd (upd H dx (.own x)) x (.ins C dx [])) (fun v H2 => v = .non ∧ Q (.ref x) H2) E
theorem e_make {C : Addr} {sp : Sp} {dvs : List V} {E : XK} (h : tr σ H fun vs H1 => rMake C sp (vs ++ dvs) H1 E Q) : tMake C sp dvs E tr σ H Q := h
theorem w_make {C : Addr} {sp : Sp} {vs : List V} {E : XK} (q : ∀ x dx H1, H x = none → Keep [] H H1 → H1 x = some (.ins C dx []) → sp (.ref x :: vs) H1 (fun v H2 => v = .non ∧ Q (.ref x) H2) E) : rMake C sp vs H E Q := fun x dx hx hd ne =>
  q x dx _ hx (Keep.trans (Keep.new hd) (Keep.new (by rw [upd_ne (Ne.symm ne)]; exact hx))) upd_same
/-! tests -/
def rB (x : V) (H : Hp) (P : Bool → Hp → Prop) : Prop := ∃ k, x = .bl k ∧ P k H
theorem t_test (h : te σ H fun x H' => rB x H' P) : tTest te σ H P := h
theorem t_B (h : te σ H fun x H' => rB x H' P) : tB te σ H P := h
theorem w_B {b : Bool} (h : P b H) : rB (.bl b) H P := ⟨b, rfl, h⟩
theorem t_and (h : tA σ H fun c H1 => if c = true then tB' σ H1 P else P false H1) : tAnd tA tB' σ H P := h
theorem t_or (h : tA σ H fun c H1 => if c = true then P true H1 else tB' σ H1 P) : tOr tA tB' σ H P := h
theorem t_not (h : tA σ H fun c H1 => P (!c) H1) : tNot tA σ H P := h
def rBV (x : V) (H : Hp) (R : Bool → Prop) : Prop := ∃ c, x = .bl c ∧ R c
theorem w_BV {b : Bool} {R : Bool → Prop} (h : R b) : rBV (.bl b) H R := ⟨b, rfl, h⟩
theorem e_andV (h : ta σ H fun x H1 => rBV x H1 fun c => if c = true then tb σ H1 Q else Q (.bl false) H1) : tAndV ta tb σ H Q := h
theorem e_orV (h : ta σ H fun x H1 => rBV x H1 fun c => if c = true then Q (.bl true) H1 else tb σ H1 Q) : tOrV ta tb σ H Q := h
theorem e_notV (h : ta σ H fun x H1 => rBV x H1 fun c => Q (.bl (!c)) H1) : tNotV ta σ H Q := h
theorem e_chain (h : ta σ H fun x H1 => tb σ H1 fun y H2 => r x y H2 fun z H3 => rBV z H3 fun k => if k = true then tc σ H3 fun w' H4 => r2 y w' H4 Q else Q (.bl false) H3) : tChain r r2 ta tb tc σ H Q := h
/-! values -/
theorem w_I0 {g : Int → Int → V} (q : Q (g i j) H) : rI0 g (.int i) (.int j) H Q := ⟨i, j, rfl, rfl, q⟩
theorem w_I {C : Int → Int → Prop} {g : Int → Int → V} (c : C i j) (q : Q (g i j) H) : rI C g (.int i) (.int j) H Q := ⟨i, j, rfl, rfl, c, q⟩
theorem w_U {g : Int → V} (q : Q (g i) H) : rU g (.int i) H Q := ⟨i, rfl, q⟩
theorem w_eqI (q : Q (.bl (decide (i = j))) H) : rEq (.int i) (.int j) H Q := ⟨rfl, by
  have e : decide (V.int i = V.int j) = decide (i = j) := by
    by_cases h : i = j
    · subst h; simp
    · rw [decide_eq_false h, decide_eq_false (fun q => h (V.int.inj q))]
  rw [e]; exact q⟩
theorem w_neI (q : Q (.bl (!decide (i = j))) H) : rNe (.int i) (.int j) H Q := ⟨rfl, by
  have e : decide (V.int i = V.int j) = decide (i = j) := by
    by_cases h : i = j
    · subst h; simp
    · rw [decide_eq_false h, decide_eq_false (fun q => h (V.int.inj q))]
  rw [e]; exact q⟩
theorem w_eqS {s t : Str} (q : Q (.bl (decide (s = t))) H) : rEq (.str s) (.str t) H Q := ⟨rfl, by
  have e : decide (V.str s = V.str t) = decide (s = t) := by
    by_cases h : s = t
    · subst h; simp
    · rw [decide_eq_false h, decide_eq_false (fun q => h (V.str.inj q))]
  rw [e]; exact q⟩
theorem w_neS {s t : Str} (q : Q (.bl (!decide (s = t))) H) : rNe (.str s) (.str t) H Q := ⟨rfl, by
  have e : decide (V.str s = V.str t) = decide (s = t) := by
    by_cases h : s = t
    · subst h; simp
    · rw [decide_eq_false h, decide_eq_false (fun q => h (V.str.inj q))]
  rw [e]; exact q⟩
theorem w_eqB {s t : Bool} (q : Q (.bl (decide (s = t))) H) : rEq (.bl s) (.bl t) H Q := ⟨rfl, by
  have e : decide (V.bl s = V.bl t) = decide (s = t) := by
    by_cases h : s = t
    · subst h; simp
    · rw [decide_eq_false h, decide_eq_false (fun q => h (V.bl.inj q))]
  rw [e]; exact q⟩
theorem w_neB {s t : Bool} (q : Q (.bl (!decide (s = t))) H) : rNe (.bl s) (.bl t) H Q := ⟨rfl, by
  have e : decide (V.bl s = V.bl t) = decide (s = t) := by
    by_cases h : s = t
    · subst h; simp
    · rw [decide_eq_false h, decide_eq_false (fun q => h (V.bl.inj q))]
  rw [e]; exact q⟩
theorem w_neN (q : Q (.bl true) H) : rNe (.int i) .non H Q := ⟨rfl, q⟩
theorem w_eqN (q : Q (.bl false) H) : rEq (.int i) .non H Q := ⟨rfl, q⟩
theorem w_ixL {p : Addr} {xs : List V} {n : Nat} (h : SqL K H p xs) (e : atI xs i = some v) (q : Q v H) : rIxL K (.ref p) (.int i) H Q := ⟨p, xs, i, v, rfl, rfl, h, e, q⟩
theorem w_ixT {p : Addr} {xs : List V} {n : Nat} (h : SqT K H p xs) (e : atI xs i = some v) (q : Q v H) : rIxT K (.ref p) (.int i) H Q := ⟨p, xs, i, v, rfl, rfl, h, e, q⟩
theorem w_aug {f : Int → Int → Int} (q : Q (.int (f i j)) H) : ipI f (.int i) (.int j) H Q := ⟨i, j, rfl, rfl, q⟩
theorem w_app {l : Addr} {xs : List V} (h : H l = some (.lst xs)) (z : xs.length < sizeLine) (q : ∀ H1, Keep [l] H H1 → H1 l = some (.lst (xs ++ [y])) → Q .non H1) : rAppend (.ref l) [y] H Q := ⟨l, xs, y, rfl, rfl, h, z, q _ (put_lst h) upd_same⟩
theorem w_ext {l b : Addr} {xs zs : List V} (h : H l = some (.lst xs)) (h2 : H b = some (.lst zs)) (z : xs.length + zs.length ≤ sizeLine) (q : ∀ H1, Keep [l] H H1 → H1 l = some (.lst (xs ++ zs)) → Q .non H1) : rExtend (.ref l) [.ref b] H Q := ⟨l, b, xs, zs, rfl, rfl, h, h2, z, q _ (put_lst h) upd_same⟩
theorem w_recv {l : Addr} {xs : List V} {R : Prop} (h : SqL K H l xs) (q : R) : rRecv K "list" (.ref l) H R := ⟨.inl ⟨rfl, xs, h⟩, q⟩
theorem w_tyL {l : Addr} {xs : List V} (h : SqL K H l xs) : tyV K "list" (.ref l) H := .inl ⟨rfl, xs, h⟩
end

/-! ### built-ins by names of their own -/
def rLen (K : PySem.W.Frag) : List V → Hp → VK → Prop := fun xs H Q => ∃ p ys, xs = [.ref p] ∧ (SqL K H p ys ∨ SqT K H p ys) ∧ Q (.int ys.length) H
def rLenS : List V → Hp → VK → Prop := fun xs H Q => ∃ z : Str, xs = [.str z] ∧ z.length ≤ sizeLine ∧ Q (.int z.length) H
def rListL (K : PySem.W.Frag) : List V → Hp → VK → Prop := fun xs H Q => ∃ p ys, xs = [.ref p] ∧ (SqL K H p ys ∨ SqT K H p ys) ∧ ∀ l, H l = none → Q (.ref l) (upd H l (.lst ys))
def rTupL (K : PySem.W.Frag) : List V → Hp → VK → Prop := fun xs H Q => ∃ p ys, xs = [.ref p] ∧ ((SqL K H p ys ∧ ∀ l, H l = none → Q (.ref l) (upd H l (.tup ys))) ∨ (SqT K H p ys ∧ Q (.ref p) H))
def rInt1 : List V → Hp → VK → Prop := fun xs H Q => (∃ i, xs = [.int i] ∧ Q (.int i) H) ∨ ∃ k, xs = [.bl k] ∧ Q (.int (if k then 1 else 0)) H
def rMin2 : List V → Hp → VK → Prop := fun xs H Q => ∃ i j, xs = [.int i, .int j] ∧ Q (.int (if j < i then j else i)) H
def rMax2 : List V → Hp → VK → Prop := fun xs H Q => ∃ i j, xs = [.int i, .int j] ∧ Q (.int (if j > i then j else i)) H
def rIsNo : R2 := fun x y H Q => y = .non ∧ Q (.bl (decide (x = .non))) H
def rIsNot : R2 := fun x y H Q => y = .non ∧ Q (.bl (!decide (x = .non))) H
def rAddS : R2 := fun x y H Q => ∃ i j, x = .str i ∧ y = .str j ∧ i.length + j.length ≤ sizeLine ∧ Q (.str (i ++ j)) H
def rIxLT (K : PySem.W.Frag) : R2 := fun x y H Q => rIxL K x y H Q ∨ rIxT K x y H Q
section
variable {X : Cx}
theorem call_lenL : CallR X (.builtin "len") (rLen X.K) := call_len_seq
theorem call_lenS : CallR X (.builtin "len") rLenS := call_len_str
theorem call_listL : CallR X (.type "list") (rListL X.K) := call_list_of
theorem call_tupleL : CallR X (.type "tuple") (rTupL X.K) := call_tuple_of
theorem call_int : CallR X (.type "int") rInt1 := call_int1
theorem call_min (hc : X.calm = true) : CallR X (.builtin "min") rMin2 := call_min2 hc
theorem call_max (hc : X.calm = true) : CallR X (.builtin "max") rMax2 := call_max2 hc
theorem op_isNo : OpR X (compareOp .Is) rIsNo := op_isN
theorem op_isNot : OpR X (compareOp .IsNot) rIsNot := op_notN
theorem op_addS : OpR X (binaryOp .Add) rAddS := op_add_str
theorem ix_lt : IxR X (rIxLT X.K) := ix_list.or ix_tup
end
section
variable {H : Hp} {Q : VK} {K : PySem.W.Frag} {p : Addr} {ys : List V}
theorem w_int {i : Int} (q : Q (.int i) H) : rInt1 [.int i] H Q := .inl ⟨i, rfl, q⟩
theorem w_intB {k : Bool} (q : Q (.int (if k then 1 else 0)) H) : rInt1 [.bl k] H Q := .inr ⟨k, rfl, q⟩
theorem w_min {i j : Int} (q : Q (.int (if j < i then j else i)) H) : rMin2 [.int i, .int j] H Q := ⟨i, j, rfl, q⟩
theorem w_max {i j : Int} (q : Q (.int (if j > i then j else i)) H) : rMax2 [.int i, .int j] H Q := ⟨i, j, rfl, q⟩
theorem w_isN (q : Q (.bl true) H) : rIsNo .non .non H Q := ⟨rfl, q⟩
theorem w_isI {i : Int} (q : Q (.bl false) H) : rIsNo (.int i) .non H Q := ⟨rfl, q⟩
theorem w_isS {z : Str} (q : Q (.bl false) H) : rIsNo (.str z) .non H Q := ⟨rfl, q⟩
theorem w_isB {b : Bool} (q : Q (.bl false) H) : rIsNo (.bl b) .non H Q := ⟨rfl, q⟩
theorem w_isR {a : Addr} (q : Q (.bl false) H) : rIsNo (.ref a) .non H Q := ⟨rfl, q⟩
theorem w_notN (q : Q (.bl false) H) : rIsNot .non .non H Q := ⟨rfl, q⟩
theorem w_notI {i : Int} (q : Q (.bl true) H) : rIsNot (.int i) .non H Q := ⟨rfl, q⟩
theorem w_notR {a : Addr} (q : Q (.bl true) H) : rIsNot (.ref a) .non H Q := ⟨rfl, q⟩
theorem w_notS {z : Str} (q : Q (.bl true) H) : rIsNot (.str z) .non H Q := ⟨rfl, q⟩
theorem w_addS {s t : Str} (h : s.length + t.length ≤ sizeLine) (q : Q (.str (s ++ t)) H) : rAddS (.str s) (.str t) H Q := ⟨s, t, rfl, rfl, h, q⟩
theorem w_eqNI {j : Int} (q : Q (.bl false) H) : rEq .non (.int j) H Q := ⟨rfl, q⟩
theorem w_neNI {j : Int} (q : Q (.bl true) H) : rNe .non (.int j) H Q := ⟨rfl, q⟩
theorem w_ixLTl {xs : List V} {i : Int} {v : V} (h : SqL K H p xs) (e : atI xs i = some v) (q : Q v H) : rIxLT K (.ref p) (.int i) H Q := .inl ⟨p, xs, i, v, rfl, rfl, h, e, q⟩
theorem w_ixLTt {xs : List V} {i : Int} {v : V} (h : SqT K H p xs) (e : atI xs i = some v) (q : Q v H) : rIxLT K (.ref p) (.int i) H Q := .inr ⟨p, xs, i, v, rfl, rfl, h, e, q⟩
theorem w_set {xs : List V} {k : Int} {v : V} {j : Nat} {R : Hp → Prop} (h : H p = some (.lst xs)) (e : ixN xs.length k = some j) (q : ∀ H1, Keep [p] H H1 → H1 p = some (.lst (xs.set j v)) → R H1) : rSetL (.ref p) (.int k) v H R := ⟨p, xs, k, j, rfl, rfl, h, e, q _ (put_lst h) upd_same⟩
theorem w_cat {a b : Addr} {xs zs : List V} (h : H a = some (.lst xs)) (h2 : H b = some (.lst zs)) (z : xs.length + zs.length ≤ sizeLine) (q : ∀ l H1, H l = none → Keep [] H H1 → H1 l = some (.lst (xs ++ zs)) → Q (.ref l) H1) : rCat (.ref a) (.ref b) H Q := ⟨a, b, xs, zs, rfl, rfl, h, h2, z, fun l hl => q l _ hl (Keep.new hl) upd_same⟩
theorem w_slL {xs : List V} {lo hi : Option Int} (h : SqL K H p xs) (q : ∀ l H1, H l = none → Keep [] H H1 → H1 l = some (.lst (cutV xs lo hi)) → Q (.ref l) H1) : rSlL K (.ref p) lo hi H Q := ⟨p, xs, rfl, h, fun l hl => q l _ hl (Keep.new hl) upd_same⟩
theorem w_slS {z : Str} {lo hi : Option Int} (h : z.length ≤ sizeLine) (q : Q (.str (cutS z lo hi)) H) : rSlS (.str z) lo hi H Q := ⟨z, rfl, h, q⟩
theorem w_ixS {z : Str} {i : Int} {c : Nat} (h : z.length ≤ sizeLine) (e : atI z.cps.toList i = some c) (q : Q (.str ⟨#[c]⟩) H) : rIxS (.str z) (.int i) H Q := ⟨z, i, c, rfl, rfl, h, e, q⟩
theorem w_lenL (h : SqL K H p ys) (q : Q (.int ys.length) H) : rLen K [.ref p] H Q := ⟨p, ys, rfl, .inl h, q⟩
theorem w_lenT (h : SqT K H p ys) (q : Q (.int ys.length) H) : rLen K [.ref p] H Q := ⟨p, ys, rfl, .inr h, q⟩
theorem w_lenS {z : Str} (h : z.length ≤ sizeLine) (q : Q (.int z.length) H) : rLenS [.str z] H Q := ⟨z, rfl, h, q⟩
theorem w_listL (h : SqL K H p ys) (q : ∀ l H1, H l = none → Keep [] H H1 → H1 l = some (.lst ys) → Q (.ref l) H1) : rListL K [.ref p] H Q := ⟨p, ys, rfl, .inl h, fun l hl => q l _ hl (Keep.new hl) upd_same⟩
theorem w_listT (h : SqT K H p ys) (q : ∀ l H1, H l = none → Keep [] H H1 → H1 l = some (.lst ys) → Q (.ref l) H1) : rListL K [.ref p] H Q := ⟨p, ys, rfl, .inr h, fun l hl => q l _ hl (Keep.new hl) upd_same⟩
theorem w_tupL (h : SqL K H p ys) (q : ∀ l H1, H l = none → Keep [] H H1 → H1 l = some (.tup ys) → Q (.ref l) H1) : rTupL K [.ref p] H Q := ⟨p, ys, rfl, .inl ⟨h, fun l hl => q l _ hl (Keep.new hl) upd_same⟩⟩
end

/-! ### xs[i] op= e -/
section
variable {X : Cx}
open PyProof.Rows in
theorem get_list : PGet X (rIxL X.K) := by
  intro pins s σ H o i ov iv Q I ro ri h
  obtain ⟨p, xs, i, z, rfl, rfl, hq, he, q⟩ := h
  cases ro
  obtain ⟨t, rfl⟩ := ri
  obtain ⟨its, r, pl, hz⟩ := I.list hq
  obtain ⟨j, h1, h2, h3, h4, h5⟩ := atI_get he
  obtain ⟨w, ew, rw'⟩ := r.get h2
  have hl := r.length
  have hn := line63
  have fin : EP X pins σ Q w s := ⟨z, H, I, rw', q⟩
  by_cases h0 : 0 ≤ i
  · have hj : i.toNat = j := by
      rw [seqIndex_of h0 h5] at h1
      exact Option.some.inj h1
    exact wpAny_getItem_list pl.isList h0 (by omega) (by rw [hj]; simpa using ew) fin
  · have hj : (i + (its.toArray.size : Int)).toNat = j := by
      rw [seqIndex_neg (by omega) h4] at h1
      rw [List.size_toArray, ← hl]
      exact Option.some.inj h1
    exact wpAny_getItem_list_neg pl.isList (by omega) (by rw [List.size_toArray] <;> omega) (by omega) (by rw [hj]; simpa using ew) fin
end

/-! ### loops -/
section
variable {K : PySem.W.Frag} {g : TG} {tb : TS} {nx : L2.St → Hp → Prop} {rt : VK} {bk ct : L2.St → Hp → Prop} {D : Ends} {σ : L2.St} {H : Hp} {tl : TE} {ta : TA} {a b : Addr} {xs ys : List V}
def kForL (K : PySem.W.Frag) (g : TG) (tb : TS) (D : Ends) (σ : L2.St) (x : V) (H : Hp) : Prop := tFor (iList K (tC x)) g tb D σ H
def kForT (K : PySem.W.Frag) (g : TG) (tb : TS) (D : Ends) (σ : L2.St) (x : V) (H : Hp) : Prop := tFor (iTup K (tC x)) g tb D σ H
def kForS (g : TG) (tb : TS) (D : Ends) (σ : L2.St) (x : V) (H : Hp) : Prop := tFor (iStr (tC x)) g tb D σ H
def kForR1 (g : TG) (tb : TS) (D : Ends) (σ : L2.St) (vs : List V) (H : Hp) : Prop := tFor (iRng1 fun _ H R => R vs H) g tb D σ H
def kForR2 (g : TG) (tb : TS) (D : Ends) (σ : L2.St) (vs : List V) (H : Hp) : Prop := tFor (iRng2 fun _ H R => R vs H) g tb D σ H
def kForR3 (g : TG) (tb : TS) (D : Ends) (σ : L2.St) (vs : List V) (H : Hp) : Prop := tFor (iRng3 fun _ H R => R vs H) g tb D σ H
def kForZ (K : PySem.W.Frag) (g : TG) (tb : TS) (D : Ends) (σ : L2.St) (vs : List V) (H : Hp) : Prop := tFor (iZip K fun _ H R => R vs H) g tb D σ H
def kForE (K : PySem.W.Frag) (g : TG) (tb : TS) (D : Ends) (σ : L2.St) (vs : List V) (H : Hp) : Prop := tFor (iEnum K fun _ H R => R vs H) g tb D σ H
theorem s_forL (h : tl σ H fun x H1 => kForL K g tb D σ x H1) : tFor (iList K tl) g tb D σ H := h
theorem s_forT (h : tl σ H fun x H1 => kForT K g tb D σ x H1) : tFor (iTup K tl) g tb D σ H := h
theorem s_forS (h : tl σ H fun x H1 => kForS g tb D σ x H1) : tFor (iStr tl) g tb D σ H := h
theorem s_forR1 (h : ta σ H fun vs H1 => kForR1 g tb D σ vs H1) : tFor (iRng1 ta) g tb D σ H := h
theorem s_forR2 (h : ta σ H fun vs H1 => kForR2 g tb D σ vs H1) : tFor (iRng2 ta) g tb D σ H := h
theorem s_forR3 (h : ta σ H fun vs H1 => kForR3 g tb D σ vs H1) : tFor (iRng3 ta) g tb D σ H := h
theorem s_forZ (h : ta σ H fun vs H1 => kForZ K g tb D σ vs H1) : tFor (iZip K ta) g tb D σ H := h
theorem s_forE (h : ta σ H fun vs H1 => kForE K g tb D σ vs H1) : tFor (iEnum K ta) g tb D σ H := h
theorem forL (h : SqL K H a xs) (Pv : Nat → L2.St → Hp → Prop) (h0 : Pv 0 σ H) (hl : ∀ i σ H, i ≤ xs.length → Pv i σ H → SqL K H a xs)
    (hs : ∀ i x σ H, xs[i]? = some x → Pv i σ H → g x σ H fun σ2 H2 => tb ⟨Pv (i + 1), rt, nx, Pv (i + 1)⟩ σ2 H2) (hd : ∀ σ H, Pv xs.length σ H → nx σ H) : kForL K g tb ⟨nx, rt, bk, ct⟩ σ (.ref a) H :=
  ⟨a, rfl, ⟨xs, h⟩, for_list Pv h0 hl hs hd⟩
theorem forT (h : SqT K H a xs) (Pv : Nat → L2.St → Hp → Prop) (h0 : Pv 0 σ H) (hl : ∀ i σ H, i ≤ xs.length → Pv i σ H → SqT K H a xs)
    (hs : ∀ i x σ H, xs[i]? = some x → Pv i σ H → g x σ H fun σ2 H2 => tb ⟨Pv (i + 1), rt, nx, Pv (i + 1)⟩ σ2 H2) (hd : ∀ σ H, Pv xs.length σ H → nx σ H) : kForT K g tb ⟨nx, rt, bk, ct⟩ σ (.ref a) H :=
  ⟨a, rfl, ⟨xs, h⟩, for_tup Pv h0 hl hs hd⟩
theorem forR1 {n : Int} (h1 : -(2 ^ 62) ≤ n) (h2 : n < 2 ^ 62) (Pv : Nat → L2.St → Hp → Prop) (h0 : Pv 0 σ H)
    (hs : ∀ (i : Nat) σ H, (i : Int) < n → Pv i σ H → g (.int (i : Int)) σ H fun σ2 H2 => tb ⟨Pv (i + 1), rt, nx, Pv (i + 1)⟩ σ2 H2) (hd : ∀ σ H, Pv n.toNat σ H → nx σ H) : kForR1 g tb ⟨nx, rt, bk, ct⟩ σ [.int n] H :=
  ⟨n, rfl, h1, h2, for_range (lo := 0) (n := n.toNat) Pv h0 (fun i σ' H' hi p => by
    have e0 : (0 : Int) + (i : Int) = (i : Int) := Int.zero_add _
    rw [e0]
    exact hs i σ' H' (by omega) p) hd⟩
theorem forR2 {lo n : Int} (hb : -(2 ^ 62) ≤ lo ∧ lo < 2 ^ 62 ∧ -(2 ^ 62) ≤ n ∧ n < 2 ^ 62) (Pv : Nat → L2.St → Hp → Prop) (h0 : Pv 0 σ H)
    (hs : ∀ (i : Nat) σ H, lo + (i : Int) < n → Pv i σ H → g (.int (lo + (i : Int))) σ H fun σ2 H2 => tb ⟨Pv (i + 1), rt, nx, Pv (i + 1)⟩ σ2 H2) (hd : ∀ σ H, Pv (n - lo).toNat σ H → nx σ H) : kForR2 g tb ⟨nx, rt, bk, ct⟩ σ [.int lo, .int n] H :=
  ⟨lo, n, rfl, hb, for_range (lo := lo) (n := (n - lo).toNat) Pv h0 (fun i σ' H' hi p => hs i σ' H' (by omega) p) hd⟩
/-! while -/
def rTurn (W : Nat → L2.St → Hp → Prop) (m : Nat) (tb : TS) (D : Ends) (σ : L2.St) (H : Hp) : Prop := ∃ N : L2.St → Hp → Prop, (∀ σ' H', N σ' H' → ∃ m', m' < m ∧ W m' σ' H') ∧ tb { D with nx := N, ct := N, bk := D.nx } σ H
theorem turn {W : Nat → L2.St → Hp → Prop} {m : Nat} (h : tb ⟨fun σ' H' => ∃ m', m' < m ∧ W m' σ' H', rt, nx, fun σ' H' => ∃ m', m' < m ∧ W m' σ' H'⟩ σ H) : rTurn W m tb ⟨nx, rt, bk, ct⟩ σ H := ⟨_, fun _ _ x => x, h⟩
theorem while_ {c : TT} (W : Nat → L2.St → Hp → Prop) (m0 : Nat) (h0 : W m0 σ H) (hs : ∀ m σ H, W m σ H → c σ H fun b H1 => if b = true then rTurn W m tb ⟨nx, rt, bk, ct⟩ σ H1 else nx σ H1) : tWhile c tb ⟨nx, rt, bk, ct⟩ σ H :=
  ⟨W, ⟨m0, h0⟩, hs⟩
/-! comprehensions -/
variable {tt : TT} {te : TE} {vs : List Nat} {Q : VK}
def kLcL (K : PySem.W.Frag) (g : TG) (tt : TT) (te : TE) (vs : List Nat) (σ : L2.St) (x : V) (H : Hp) (Q : VK) : Prop := tLc (iList K (tC x)) g tt te vs σ H Q
def kLcR1 (g : TG) (tt : TT) (te : TE) (vs : List Nat) (σ : L2.St) (zs : List V) (H : Hp) (Q : VK) : Prop := tLc (iRng1 fun _ H R => R zs H) g tt te vs σ H Q
def kLcR2 (g : TG) (tt : TT) (te : TE) (vs : List Nat) (σ : L2.St) (zs : List V) (H : Hp) (Q : VK) : Prop := tLc (iRng2 fun _ H R => R zs H) g tt te vs σ H Q
def kLcZ (K : PySem.W.Frag) (g : TG) (tt : TT) (te : TE) (vs : List Nat) (σ : L2.St) (zs : List V) (H : Hp) (Q : VK) : Prop := tLc (iZip K fun _ H R => R zs H) g tt te vs σ H Q
def kLcS (g : TG) (tt : TT) (te : TE) (vs : List Nat) (σ : L2.St) (x : V) (H : Hp) (Q : VK) : Prop := tLc (iStr (tC x)) g tt te vs σ H Q
theorem e_lcL (h : tl σ H fun x H1 => kLcL K g tt te vs σ x H1 Q) : tLc (iList K tl) g tt te vs σ H Q := h
theorem e_lcR1 (h : ta σ H fun zs H1 => kLcR1 g tt te vs σ zs H1 Q) : tLc (iRng1 ta) g tt te vs σ H Q := h
theorem e_lcR2 (h : ta σ H fun zs H1 => kLcR2 g tt te vs σ zs H1 Q) : tLc (iRng2 ta) g tt te vs σ H Q := h
theorem e_lcZ (h : ta σ H fun zs H1 => kLcZ K g tt te vs σ zs H1 Q) : tLc (iZip K ta) g tt te vs σ H Q := h
theorem e_lcS (h : tl σ H fun x H1 => kLcS g tt te vs σ x H1 Q) : tLc (iStr tl) g tt te vs σ H Q := h
def rApp (D : Addr) (y : V) (H : Hp) (R : Hp → Prop) : Prop := ∃ acc, H D = some (.lst acc) ∧ acc.length < sizeLine ∧ R (upd H D (.lst (acc ++ [y])))
theorem lcL (h : SqL K H a xs) (Pv : Addr → Nat → Hp → Prop) (h0 : ∀ D H1, H D = none → Keep [] H H1 → H1 D = some (.lst []) → Pv D 0 H1) (hl : ∀ D i H, i ≤ xs.length → Pv D i H → SqL K H a xs)
    (hs : ∀ D i x H', H D = none → xs[i]? = some x → Pv D i H' → g x (wipe σ vs) H' fun σ2 H2 => wipe σ2 vs = wipe σ vs ∧ tt σ2 H2 fun b H3 => if b = true then te σ2 H3 fun y H4 => rApp D y H4 (Pv D (i + 1)) else Pv D (i + 1) H3)
    (hd : ∀ D H', H D = none → Pv D xs.length H' → Q (.ref D) H') : kLcL K g tt te vs σ (.ref a) H Q :=
  ⟨a, rfl, ⟨xs, h⟩, fun D hD => lc_list (Pv D) (h0 D _ hD (Keep.new hD) upd_same) (hl D) (fun i x H' hi p => hs D i x H' hD hi p) (fun H' p => hd D H' hD p)⟩
theorem lcR1 {n : Int} (h1 : -(2 ^ 62) ≤ n) (h2 : n < 2 ^ 62) (Pv : Addr → Nat → Hp → Prop) (h0 : ∀ D H1, H D = none → Keep [] H H1 → H1 D = some (.lst []) → Pv D 0 H1)
    (hs : ∀ D (i : Nat) H', H D = none → (i : Int) < n → Pv D i H' → g (.int (i : Int)) (wipe σ vs) H' fun σ2 H2 => wipe σ2 vs = wipe σ vs ∧ tt σ2 H2 fun b H3 => if b = true then te σ2 H3 fun y H4 => rApp D y H4 (Pv D (i + 1)) else Pv D (i + 1) H3)
    (hd : ∀ D H', H D = none → Pv D n.toNat H' → Q (.ref D) H') : kLcR1 g tt te vs σ [.int n] H Q :=
  ⟨n, rfl, h1, h2, fun D hD => lc_range (lo := 0) (n := n.toNat) (Pv D) (h0 D _ hD (Keep.new hD) upd_same) (fun i H' hi p => by
    have e0 : (0 : Int) + (i : Int) = (i : Int) := Int.zero_add _
    rw [e0]
    exact hs D i H' hD (by omega) p) (fun H' p => hd D H' hD p)⟩
theorem lcR2 {lo n : Int} (hb : -(2 ^ 62) ≤ lo ∧ lo < 2 ^ 62 ∧ -(2 ^ 62) ≤ n ∧ n < 2 ^ 62) (Pv : Addr → Nat → Hp → Prop) (h0 : ∀ D H1, H D = none → Keep [] H H1 → H1 D = some (.lst []) → Pv D 0 H1)
    (hs : ∀ D (i : Nat) H', H D = none → lo + (i : Int) < n → Pv D i H' → g (.int (lo + (i : Int))) (wipe σ vs) H' fun σ2 H2 => wipe σ2 vs = wipe σ vs ∧ tt σ2 H2 fun b H3 => if b = true then te σ2 H3 fun y H4 => rApp D y H4 (Pv D (i + 1)) else Pv D (i + 1) H3)
    (hd : ∀ D H', H D = none → Pv D (n - lo).toNat H' → Q (.ref D) H') : kLcR2 g tt te vs σ [.int lo, .int n] H Q :=
  ⟨lo, n, rfl, hb, fun D hD => lc_range (lo := lo) (n := (n - lo).toNat) (Pv D) (h0 D _ hD (Keep.new hD) upd_same) (fun i H' hi p => hs D i H' hD (by omega) p) (fun H' p => hd D H' hD p)⟩
theorem t_yes {P : Bool → Hp → Prop} (h : P true H) : tYes σ H P := h
theorem w_rApp {p : Addr} {y : V} {acc : List V} {R : Hp → Prop} (h : H p = some (.lst acc)) (z : acc.length < sizeLine) (q : ∀ H1, Keep [p] H H1 → H1 p = some (.lst (acc ++ [y])) → R H1) : rApp p y H R := ⟨acc, h, z, q _ (put_lst h) upd_same⟩
theorem w_tup {n : Nat} {t : TGs} {P : L2.St → Hp → Prop} (h : SqT K H a xs) (e : xs.length = n) (q : t xs σ H P) : gTup K n t (.ref a) σ H P := ⟨a, xs, rfl, h, e, q⟩
theorem w_gcons {t : TG} {u : TGs} {v : V} {r : List V} {P : L2.St → Hp → Prop} (q : t v σ H fun σ' H' => u r σ' H' P) : gCons t u (v :: r) σ H P := ⟨v, r, rfl, q⟩
theorem w_gnil {P : L2.St → Hp → Prop} (q : P σ H) : gNil [] σ H P := ⟨rfl, q⟩
def rPar (i j : Nat) (vs : List V) (σ : L2.St) (H : Hp) (P : L2.St → Hp → Prop) : Prop := ∃ v w, vs = [v, w] ∧ P ((σ.set i (some v)).set j (some w)) H
theorem s_par {i j : Nat} (h : ta σ H fun vs H1 => rPar i j vs σ H1 nx) : tPar i j ta ⟨nx, rt, bk, ct⟩ σ H := h
theorem w_par {i j : Nat} {v w : V} {P : L2.St → Hp → Prop} (h : P ((σ.set i (some v)).set j (some w)) H) : rPar i j [v, w] σ H P := ⟨v, w, rfl, h⟩
end

/-! ### pairs of a heap and data -/
/-- each value is a tuple that stands at H -/
def Tups {α : Type} (f : α → List V) (H : Hp) (vs : List V) (xs : List α) : Prop := Paired (fun v x => ∃ t, v = V.ref t ∧ H t = some (.tup (f x))) vs xs
section
variable {α β : Type} {f : α → List V} {H H' : Hp} {vs ws : List V} {xs ys : List α}
theorem Tups.mono (h : Tups f H vs xs) (k : ∀ b zs, H b = some (.tup zs) → H' b = some (.tup zs)) : Tups f H' vs xs := Paired.mapP h fun _ _ ⟨t, e, q⟩ => ⟨t, e, k _ _ q⟩
theorem Tups.keep {S : List Addr} (h : Tups f H vs xs) (k : Keep S H H') : Tups f H' vs xs := h.mono k.2
theorem Tups.nil : Tups f H [] [] := Paired.nil
theorem Tups.len (h : Tups f H vs xs) : vs.length = xs.length := Paired.length h
theorem Tups.snoc {t : Addr} {x : α} (h : Tups f H vs xs) (q : H t = some (.tup (f x))) : Tups f H (vs ++ [.ref t]) (xs ++ [x]) := Paired.snoc h ⟨t, rfl, q⟩
end
section
variable {α β : Type} {F : α → β → Prop}
theorem pd_append : ∀ {vs ws : List α} {xs ys : List β}, Paired F vs xs → Paired F ws ys → Paired F (vs ++ ws) (xs ++ ys)
  | _, _, _, _, .nil, h => h
  | _, _, _, _, .cons a r, h => .cons a (pd_append r h)
theorem pd_take : ∀ {vs : List α} {xs : List β} (n : Nat), Paired F vs xs → Paired F (vs.take n) (xs.take n)
  | _, _, 0, _ => .nil
  | _, _, _ + 1, .nil => .nil
  | _, _, n + 1, .cons a r => .cons a (pd_take n r)
theorem pd_drop : ∀ {vs : List α} {xs : List β} (n : Nat), Paired F vs xs → Paired F (vs.drop n) (xs.drop n)
  | _, _, 0, h => h
  | _, _, _ + 1, .nil => .nil
  | _, _, n + 1, .cons _ r => pd_drop n r
theorem pd_get : ∀ {vs : List α} {xs : List β} {i : Nat} {v : α}, Paired F vs xs → vs[i]? = some v → ∃ x, xs[i]? = some x ∧ F v x
  | _, _, _, _, .nil, e => by simp at e
  | _, _, 0, _, .cons h _, e => by
    simp at e; subst e
    exact ⟨_, rfl, h⟩
  | _, _, i + 1, v, .cons _ r, e => by
    obtain ⟨x, e1, e2⟩ := pd_get (i := i) (v := v) r (by simpa using e)
    exact ⟨x, by simpa using e1, e2⟩
theorem pd_get' : ∀ {vs : List α} {xs : List β} {i : Nat} {x : β}, Paired F vs xs → xs[i]? = some x → ∃ v, vs[i]? = some v ∧ F v x
  | _, _, _, _, .nil, e => by simp at e
  | _, _, 0, _, .cons h _, e => by
    simp at e; subst e
    exact ⟨_, rfl, h⟩
  | _, _, i + 1, x, .cons _ r, e => by
    obtain ⟨v, e1, e2⟩ := pd_get' (i := i) (x := x) r (by simpa using e)
    exact ⟨v, by simpa using e1, e2⟩
end
section
variable {α β : Type} {f : α → List V} {H H' : Hp} {vs ws : List V} {xs ys : List α}
theorem Tups.append (h : Tups f H vs xs) (k : Tups f H ws ys) : Tups f H (vs ++ ws) (xs ++ ys) := pd_append h k
theorem Tups.take (n : Nat) (h : Tups f H vs xs) : Tups f H (vs.take n) (xs.take n) := pd_take n h
theorem Tups.drop (n : Nat) (h : Tups f H vs xs) : Tups f H (vs.drop n) (xs.drop n) := pd_drop n h
theorem Tups.get {i : Nat} {v : V} (h : Tups f H vs xs) (e : vs[i]? = some v) : ∃ t x, v = .ref t ∧ xs[i]? = some x ∧ H t = some (.tup (f x)) := by
  obtain ⟨x, e1, t, e2, e3⟩ := pd_get h e
  exact ⟨t, x, e2, e1, e3⟩
end

/-! ### ifs -/
theorem ite_dec {p A B : Prop} [Decidable p] (h1 : p → A) (h2 : ¬ p → B) : if decide p = true then A else B := by
  by_cases h : p
  · rw [if_pos (decide_eq_true h)]; exact h1 h
  · rw [if_neg (by rw [decide_eq_false h]; exact Bool.false_ne_true)]; exact h2 h
theorem ite_ndec {p A B : Prop} [Decidable p] (h1 : ¬ p → A) (h2 : p → B) : if (!decide p) = true then A else B := by
  by_cases h : p
  · rw [decide_eq_true h]; exact h2 h
  · rw [decide_eq_false h]; exact h1 h
theorem ite_T {A B : Prop} (h : A) : if true = true then A else B := h
theorem ite_F {A B : Prop} (h : B) : if false = true then A else B := h
theorem ite_nT {A B : Prop} (h : B) : if (!true) = true then A else B := h
theorem ite_nF {A B : Prop} (h : A) : if (!false) = true then A else B := h
theorem ite_self {α : Type} [DecidableEq α] {x : α} {A B : Prop} (h : A) : if decide (x = x) = true then A else B := by rw [decide_eq_true rfl]; exact h
theorem ite_nself {α : Type} [DecidableEq α] {x : α} {A B : Prop} (h : B) : if (!decide (x = x)) = true then A else B := by rw [decide_eq_true rfl]; exact h
theorem ite_tf {A B : Prop} (h : B) : if decide (true = false) = true then A else B := h
theorem ite_ft {A B : Prop} (h : B) : if decide (false = true) = true then A else B := h
theorem ite_ntf {A B : Prop} (h : A) : if (!decide (true = false)) = true then A else B := h
theorem ite_nft {A B : Prop} (h : A) : if (!decide (false = true)) = true then A else B := h
theorem q_self {α : Type} [DecidableEq α] {x : α} {Q : VK} {H : Hp} (h : Q (.bl true) H) : Q (.bl (decide (x = x))) H := by rw [decide_eq_true rfl]; exact h
theorem ite_P {p A B : Prop} [Decidable p] (c : p) (h : A) : if decide p = true then A else B := by rw [if_pos (decide_eq_true c)]; exact h
theorem ite_N {p A B : Prop} [Decidable p] (c : ¬ p) (h : B) : if decide p = true then A else B := by rw [decide_eq_false c]; exact h
end W

end
section
set_option maxHeartbeats 4000000
/-! W2: data as a whole; isinstance -/
namespace W
open PySem PySem.Spec L2
mutual
def Da (H : Hp) : PyData → V → Prop
  | .none, v => v = .non
  | .bool b, v => v = .bl b
  | .int i, v => v = .int i
  | .str s, v => v = .str s
  | .list ds, v => ∃ a xs, v = .ref a ∧ H a = some (.lst xs) ∧ DaL H ds xs
  | .tuple ds, v => ∃ a xs, v = .ref a ∧ H a = some (.tup xs) ∧ DaL H ds xs
  | .dict _, _ => False
def DaL (H : Hp) : List PyData → List V → Prop
  | [], xs => xs = []
  | d :: ds, xs => ∃ v r, xs = v :: r ∧ Da H d v ∧ DaL H ds r
end
mutual
/-- how deep -/
def dep : PyData → Nat
  | .list ds => depL ds + 1
  | .tuple ds => depL ds + 1
  | _ => 0
def depL : List PyData → Nat
  | [] => 0
  | d :: ds => max (dep d) (depL ds)
end
mutual
/-- how wide -/
def wid : PyData → Nat
  | .list ds => max ds.length (widL ds)
  | .tuple ds => max ds.length (widL ds)
  | _ => 0
def widL : List PyData → Nat
  | [] => 0
  | d :: ds => max (wid d) (widL ds)
end
mutual
theorem Da.mono {H H' : Hp} (k : Same H H') : ∀ (d : PyData) (v : V), Da H d v → Da H' d v
  | .none, _, h => by simpa [Da] using h
  | .bool _, _, h => by simpa [Da] using h
  | .int _, _, h => by simpa [Da] using h
  | .str _, _, h => by simpa [Da] using h
  | .list ds, _, h => by
    simp only [Da] at h ⊢
    obtain ⟨a, xs, e, h1, h2⟩ := h
    exact ⟨a, xs, e, k _ _ h1, DaL.mono k ds xs h2⟩
  | .tuple ds, _, h => by
    simp only [Da] at h ⊢
    obtain ⟨a, xs, e, h1, h2⟩ := h
    exact ⟨a, xs, e, k _ _ h1, DaL.mono k ds xs h2⟩
  | .dict _, _, h => by simp [Da] at h
theorem DaL.mono {H H' : Hp} (k : Same H H') : ∀ (ds : List PyData) (xs : List V), DaL H ds xs → DaL H' ds xs
  | [], _, h => by simpa [DaL] using h
  | d :: ds, _, h => by
    simp only [DaL] at h ⊢
    obtain ⟨v, r, e, h1, h2⟩ := h
    exact ⟨v, r, e, Da.mono k d v h1, DaL.mono k ds r h2⟩
end
theorem DaL.len {H : Hp} : ∀ {ds : List PyData} {xs : List V}, DaL H ds xs → xs.length = ds.length
  | [], _, h => by simp only [DaL] at h; subst h; rfl
  | d :: ds, _, h => by
    simp only [DaL] at h
    obtain ⟨v, r, rfl, _, h2⟩ := h
    simp [DaL.len h2]
theorem DaL.get {H : Hp} : ∀ {ds : List PyData} {xs : List V} {i : Nat} {v : V}, DaL H ds xs → xs[i]? = some v → ∃ d, ds[i]? = some d ∧ Da H d v
  | [], _, i, v, h, e => by simp only [DaL] at h; subst h; simp at e
  | d :: ds, _, 0, v, h, e => by
    simp only [DaL] at h
    obtain ⟨u, r, rfl, h1, _⟩ := h
    simp at e; subst e
    exact ⟨d, rfl, h1⟩
  | d :: ds, _, i + 1, v, h, e => by
    simp only [DaL] at h
    obtain ⟨u, r, rfl, _, h2⟩ := h
    obtain ⟨x, e1, e2⟩ := DaL.get (i := i) (v := v) h2 (by simpa using e)
    exact ⟨x, by simpa using e1, e2⟩
theorem DaL.append {H : Hp} : ∀ {ds es : List PyData} {xs ys : List V}, DaL H ds xs → DaL H es ys → DaL H (ds ++ es) (xs ++ ys)
  | [], _, _, _, h, k => by simp only [DaL] at h; subst h; exact k
  | d :: ds, _, _, _, h, k => by
    simp only [DaL] at h
    obtain ⟨u, r, rfl, h1, h2⟩ := h
    show DaL H (d :: (ds ++ _)) (u :: (r ++ _))
    simp only [DaL]
    exact ⟨u, _, rfl, h1, DaL.append h2 k⟩
theorem DaL.snoc {H : Hp} {ds : List PyData} {xs : List V} {d : PyData} {v : V} (h : DaL H ds xs) (k : Da H d v) : DaL H (ds ++ [d]) (xs ++ [v]) :=
  h.append (by simp only [DaL]; exact ⟨v, [], rfl, k, rfl⟩)
theorem DaL.one {H : Hp} {d : PyData} {v : V} (k : Da H d v) : DaL H [d] [v] := by simp only [DaL]; exact ⟨v, [], rfl, k, rfl⟩
theorem DaL.cons {H : Hp} {ds : List PyData} {xs : List V} {d : PyData} {v : V} (k : Da H d v) (h : DaL H ds xs) : DaL H (d :: ds) (v :: xs) := by simp only [DaL]; exact ⟨v, xs, rfl, k, h⟩
theorem DaL.nil {H : Hp} : DaL H [] [] := by simp only [DaL]
theorem DaL.ints {H : Hp} : ∀ ns : List Int, DaL H (ns.map PyData.int) (ns.map V.int)
  | [] => DaL.nil
  | n :: r => DaL.cons (by simp only [Da]) (DaL.ints r)
theorem DaL.bools {H : Hp} : ∀ ns : List Bool, DaL H (ns.map PyData.bool) (ns.map V.bl)
  | [] => DaL.nil
  | n :: r => DaL.cons (by simp only [Da]) (DaL.bools r)
theorem Da.int {H : Hp} {i : Int} : Da H (.int i) (.int i) := by simp only [Da]
theorem Da.bl {H : Hp} {i : Bool} : Da H (.bool i) (.bl i) := by simp only [Da]
theorem Da.str {H : Hp} {i : Str} : Da H (.str i) (.str i) := by simp only [Da]
theorem Da.non {H : Hp} : Da H .none .non := by simp only [Da]
theorem Da.lst {H : Hp} {a : Addr} {xs : List V} {ds : List PyData} (h : H a = some (.lst xs)) (k : DaL H ds xs) : Da H (.list ds) (.ref a) := by simp only [Da]; exact ⟨a, xs, rfl, h, k⟩
theorem Da.tup {H : Hp} {a : Addr} {xs : List V} {ds : List PyData} (h : H a = some (.tup xs)) (k : DaL H ds xs) : Da H (.tuple ds) (.ref a) := by simp only [Da]; exact ⟨a, xs, rfl, h, k⟩
theorem depL_get : ∀ {ds : List PyData} {i : Nat} {d : PyData}, ds[i]? = some d → dep d ≤ depL ds
  | [], _, _, e => by simp at e
  | x :: r, 0, d, e => by simp at e; subst e; simp only [depL]; omega
  | x :: r, i + 1, d, e => by
    have h := depL_get (ds := r) (i := i) (d := d) (by simpa using e)
    simp only [depL]; omega
theorem widL_get : ∀ {ds : List PyData} {i : Nat} {d : PyData}, ds[i]? = some d → wid d ≤ widL ds
  | [], _, _, e => by simp at e
  | x :: r, 0, d, e => by simp at e; subst e; simp only [widL]; omega
  | x :: r, i + 1, d, e => by
    have h := widL_get (ds := r) (i := i) (d := d) (by simpa using e)
    simp only [widL]; omega
theorem widL_ints : ∀ ns : List Int, widL (ns.map PyData.int) = 0
  | [] => rfl
  | n :: r => by show max (wid (.int n)) (widL (r.map PyData.int)) = 0; rw [widL_ints r]; rfl
theorem depL_ints : ∀ ns : List Int, depL (ns.map PyData.int) = 0
  | [] => rfl
  | n :: r => by show max (dep (.int n)) (depL (r.map PyData.int)) = 0; rw [depL_ints r]; rfl
mutual
theorem Da.dp {K : PySem.W.Frag} {H : Hp} : ∀ (d : PyData) (v : V), Da H d v → Dp K H v d
  | .none, _, h => by simp only [Da] at h; subst h; exact .non
  | .bool b, _, h => by simp only [Da] at h; subst h; exact .bl b
  | .int i, _, h => by simp only [Da] at h; subst h; exact .int i
  | .str s, _, h => by simp only [Da] at h; subst h; exact .str s
  | .list ds, _, h => by
    simp only [Da] at h
    obtain ⟨a, xs, rfl, h1, h2⟩ := h
    exact .lst (SqL.of h1) (DaL.dp ds xs h2)
  | .tuple ds, _, h => by
    simp only [Da] at h
    obtain ⟨a, xs, rfl, h1, h2⟩ := h
    exact .tup (SqT.of h1) (DaL.dp ds xs h2)
  | .dict _, _, h => by simp [Da] at h
theorem DaL.dp {K : PySem.W.Frag} {H : Hp} : ∀ (ds : List PyData) (xs : List V), DaL H ds xs → DpAll K H xs ds
  | [], _, h => by simp only [DaL] at h; subst h; exact .nil
  | d :: ds, _, h => by
    simp only [DaL] at h
    obtain ⟨v, r, rfl, h1, h2⟩ := h
    exact .cons (Da.dp d v h1) (DaL.dp ds r h2)
end
/-! isinstance -/
def tyName : PyData → String
  | .none => "NoneType" | .bool _ => "bool" | .int _ => "int" | .str _ => "str" | .list _ => "list" | .tuple _ => "tuple" | .dict _ => "dict"
theorem Da.ty {K : PySem.W.Frag} {H : Hp} {d : PyData} {v : V} (h : Da H d v) : TyX K H v (.type (tyName d)) := by
  cases d with
  | none => simp only [Da] at h; subst h; exact .base .non
  | bool b => simp only [Da] at h; subst h; exact .base (.bl b)
  | int i => simp only [Da] at h; subst h; exact .base (.int i)
  | str s => simp only [Da] at h; subst h; exact .base (.str s)
  | list ds =>
    simp only [Da] at h
    obtain ⟨a, xs, rfl, h1, h2⟩ := h
    exact .base (.lst h1)
  | tuple ds =>
    simp only [Da] at h
    obtain ⟨a, xs, rfl, h1, h2⟩ := h
    exact .base (.tup h1)
  | dict ds => simp [Da] at h
theorem w_isi {K : PySem.W.Frag} {H : Hp} {Q : VK} {x : V} {T n : String} {b : Bool} (ty : TyX K H x (.type T)) (h : kitB T n = some b) (q : Q (.bl b) H) : rIsi K [x, .ty n] H Q := ⟨x, .ty n, .type T, .type n, b, rfl, .ty n, ty, kit_ty h, q⟩
theorem w_isiT2 {K : PySem.W.Frag} {H : Hp} {Q : VK} {x : V} {T n m : String} {tp : Addr} {b c : Bool} (ty : TyX K H x (.type T)) (ht : H tp = some (.tup [.ty n, .ty m])) (h : kitB T n = some b) (h2 : kitB T m = some c) (q : Q (.bl (b || c)) H) : rIsiT K [x, .ref tp] H Q :=
  ⟨x, tp, _, .type T, [.type n, .type m], b || c, rfl, ht, .cons (.ty n) (.cons (.ty m) .nil), ty, kitAny_cons (kit_ty h) (fun hb => by
    subst hb
    exact kitAny_cons (kit_ty h2) (fun hc => by subst hc; exact kitAny_nil) (fun hc => by subst hc; rfl)) (fun hb => by subst hb; rfl), q⟩
section
variable {K : PySem.W.Frag} {H : Hp} {Q : VK} {x : V} {T n m : String} {tp : Addr}
theorem w_isi1 (ty : TyX K H x (.type T)) (h : kitB T n = some true) (q : Q (.bl true) H) : rIsi K [x, .ty n] H Q := w_isi ty h q
theorem w_isi0 (ty : TyX K H x (.type T)) (h : kitB T n = some false) (q : Q (.bl false) H) : rIsi K [x, .ty n] H Q := w_isi ty h q
theorem w_isiT10 (ty : TyX K H x (.type T)) (ht : H tp = some (.tup [.ty n, .ty m])) (h : kitB T n = some true) (h2 : kitB T m = some false) (q : Q (.bl true) H) : rIsiT K [x, .ref tp] H Q := w_isiT2 ty ht h h2 q
theorem w_isiT01 (ty : TyX K H x (.type T)) (ht : H tp = some (.tup [.ty n, .ty m])) (h : kitB T n = some false) (h2 : kitB T m = some true) (q : Q (.bl true) H) : rIsiT K [x, .ref tp] H Q := w_isiT2 ty ht h h2 q
theorem w_isiT00 (ty : TyX K H x (.type T)) (ht : H tp = some (.tup [.ty n, .ty m])) (h : kitB T n = some false) (h2 : kitB T m = some false) (q : Q (.bl false) H) : rIsiT K [x, .ref tp] H Q := w_isiT2 ty ht h h2 q
end
/-! == of data that are the same -/
mutual
theorem canLay_ints : ∀ ns : List Int, PyData.canLayAll0 (ns.map PyData.int) = true
  | [] => rfl
  | n :: r => by show (PyData.canLay0 (.int n) && PyData.canLayAll0 (r.map PyData.int)) = true; rw [canLay_ints r]; rfl
end
theorem depth_ints : ∀ ns : List Int, PyData.depthAll (ns.map PyData.int) = 0
  | [] => rfl
  | n :: r => by show max (PyData.depth (.int n)) (PyData.depthAll (r.map PyData.int)) = 0; rw [depth_ints r]; rfl
theorem shp_ints (ns : List Int) : SeqAt.shaped (.list (ns.map PyData.int)) = true := by
  show (PyData.canLayAll0 (ns.map PyData.int) && decide (PyData.depthAll (ns.map PyData.int) + 1 ≤ 64)) = true
  rw [canLay_ints, depth_ints]; rfl
theorem w_neD {K : PySem.W.Frag} {H : Hp} {Q : VK} {x y : V} (d : PyData) (hx : Da H d x) (hy : Da H d y) (hs : SeqAt.shaped d = true) (q : Q (.bl false) H) : rNeD K x y H Q :=
  ⟨d, d, hx.dp, hy.dp, hs, hs, by rw [SeqAt.eqv_refl d (SeqAt.canLay_of_shaped hs)]; exact q⟩
theorem w_eqD {K : PySem.W.Frag} {H : Hp} {Q : VK} {x y : V} (d : PyData) (hx : Da H d x) (hy : Da H d y) (hs : SeqAt.shaped d = true) (q : Q (.bl true) H) : rEqD K x y H Q :=
  ⟨d, d, hx.dp, hy.dp, hs, hs, by rw [SeqAt.eqv_refl d (SeqAt.canLay_of_shaped hs)]; exact q⟩
/-! insert; a list unpacked -/
def rInsL : V → List V → Hp → VK → Prop := fun x vs H Q => ∃ (l : Addr) (xs : List V) (i : Int) (y : V), x = .ref l ∧ vs = [.int i, y] ∧ H l = some (.lst xs) ∧ xs.length < sizeLine ∧ 0 ≤ i ∧ i < 2 ^ 63 ∧
    Q .non (upd H l (.lst (xs.take i.toNat ++ [y] ++ xs.drop i.toNat)))
theorem mt_insertL {X : Cx} : MtR X "list.insert" rInsL := mt_insert
theorem w_ins {H : Hp} {Q : VK} {l : Addr} {xs : List V} {i : Int} {y : V} (h : H l = some (.lst xs)) (z : xs.length < sizeLine) (h0 : 0 ≤ i ∧ i < 2 ^ 63) (q : ∀ H1, Keep [l] H H1 → H1 l = some (.lst (xs.take i.toNat ++ [y] ++ xs.drop i.toNat)) → Q .non H1) :
    rInsL (.ref l) [.int i, y] H Q := ⟨l, xs, i, y, rfl, rfl, h, z, h0.1, h0.2, q _ (put_lst h) upd_same⟩
theorem w_unl {K : PySem.W.Frag} {σ : L2.St} {H : Hp} {a : Addr} {xs : List V} {n : Nat} {t : TGs} {P : L2.St → Hp → Prop} (h : SqL K H a xs) (e : xs.length = n) (q : t xs σ H P) : gUnl K n t (.ref a) σ H P := ⟨a, xs, rfl, h, e, q⟩
/-! walks that give pairs, texts -/
section
variable {K : PySem.W.Frag} {g : TG} {tb : TS} {tt : TT} {te : TE} {vs : List Nat} {Q : VK} {nx : L2.St → Hp → Prop} {rt : VK} {bk ct : L2.St → Hp → Prop} {σ : L2.St} {H : Hp} {a b : Addr} {xs ys : List V} {z : Str}
theorem lcZ {n : Nat} (hn : n = min xs.length ys.length) (hx : SqL K H a xs) (hy : SqL K H b ys) (Pv : Addr → Nat → Hp → Prop) (h0 : ∀ D H1, H D = none → Keep [] H H1 → H1 D = some (.lst []) → Pv D 0 H1) (hl : ∀ D i H, i ≤ n → Pv D i H → SqL K H a xs ∧ SqL K H b ys)
    (hs : ∀ D i x y T H' H'', H D = none → xs[i]? = some x → ys[i]? = some y → Pv D i H' → H' T = none → Keep [] H' H'' → H'' T = some (.tup [x, y]) → g (.ref T) (wipe σ vs) H'' fun σ2 H2 => wipe σ2 vs = wipe σ vs ∧ tt σ2 H2 fun b H3 => if b = true then te σ2 H3 fun y H4 => rApp D y H4 (Pv D (i + 1)) else Pv D (i + 1) H3)
    (hd : ∀ D H', H D = none → Pv D n H' → Q (.ref D) H') : kLcZ K g tt te vs σ [.ref a, .ref b] H Q :=
  ⟨a, b, xs, ys, rfl, hx, hy, fun D hD => lc_it (walk_zip hn) (Pv D) (h0 D _ hD (Keep.new hD) upd_same) (hl D) (fun i v H' H'' _ p y => by
    obtain ⟨T, x, z, rfl, nT, rfl, e1, e2⟩ := y
    exact hs D i x z T H' _ hD e1 e2 p nT (Keep.new nT) upd_same) (fun H' p => hd D H' hD p)⟩
theorem forZ {n : Nat} (hn : n = min xs.length ys.length) (hx : SqL K H a xs) (hy : SqL K H b ys) (Pv : Nat → L2.St → Hp → Prop) (h0 : Pv 0 σ H) (hl : ∀ i σ H, i ≤ n → Pv i σ H → SqL K H a xs ∧ SqL K H b ys)
    (hs : ∀ i x y T σ H' H'', xs[i]? = some x → ys[i]? = some y → Pv i σ H' → H' T = none → Keep [] H' H'' → H'' T = some (.tup [x, y]) → g (.ref T) σ H'' fun σ2 H2 => tb ⟨Pv (i + 1), rt, nx, Pv (i + 1)⟩ σ2 H2)
    (hd : ∀ σ H', Pv n σ H' → nx σ H') : kForZ K g tb ⟨nx, rt, bk, ct⟩ σ [.ref a, .ref b] H :=
  ⟨a, b, xs, ys, rfl, hx, hy, for_it (walk_zip hn) Pv h0 hl (fun i v σ H' H'' _ p y => by
    obtain ⟨T, x, z, rfl, nT, rfl, e1, e2⟩ := y
    exact hs i x z T σ H' _ e1 e2 p nT (Keep.new nT) upd_same) hd⟩
theorem forE (hx : SqL K H a xs) (Pv : Nat → L2.St → Hp → Prop) (h0 : Pv 0 σ H) (hl : ∀ i σ H, i ≤ xs.length → Pv i σ H → SqL K H a xs)
    (hs : ∀ (i : Nat) x T σ H' H'', xs[i]? = some x → Pv i σ H' → H' T = none → Keep [] H' H'' → H'' T = some (.tup [.int (i : Int), x]) → g (.ref T) σ H'' fun σ2 H2 => tb ⟨Pv (i + 1), rt, nx, Pv (i + 1)⟩ σ2 H2)
    (hd : ∀ σ H', Pv xs.length σ H' → nx σ H') : kForE K g tb ⟨nx, rt, bk, ct⟩ σ [.ref a] H :=
  ⟨a, xs, rfl, hx, for_it walk_enum Pv h0 hl (fun i v σ H' H'' _ p y => by
    obtain ⟨T, x, z, rfl, nT, rfl, e1, e2⟩ := y
    cases e1
    exact hs i z T σ H' _ e2 p nT (Keep.new nT) upd_same) hd⟩
theorem forS (Pv : Nat → L2.St → Hp → Prop) (h0 : Pv 0 σ H)
    (hs : ∀ (i : Nat) c σ H', z.cps[i]? = some c → Pv i σ H' → g (.str ⟨#[c]⟩) σ H' fun σ2 H2 => tb ⟨Pv (i + 1), rt, nx, Pv (i + 1)⟩ σ2 H2)
    (hd : ∀ σ H', Pv z.cps.size σ H' → nx σ H') : kForS g tb ⟨nx, rt, bk, ct⟩ σ (.str z) H :=
  ⟨z, rfl, for_it walk_str Pv h0 (fun _ _ _ _ _ => trivial) (fun i v σ H' H'' _ p y => by
    obtain ⟨rfl, c, e, rfl⟩ := y
    exact hs i c σ _ e p) hd⟩
theorem lcS (Pv : Addr → Nat → Hp → Prop) (h0 : ∀ D H1, H D = none → Keep [] H H1 → H1 D = some (.lst []) → Pv D 0 H1)
    (hs : ∀ D (i : Nat) c H', H D = none → z.cps[i]? = some c → Pv D i H' → g (.str ⟨#[c]⟩) (wipe σ vs) H' fun σ2 H2 => wipe σ2 vs = wipe σ vs ∧ tt σ2 H2 fun b H3 => if b = true then te σ2 H3 fun y H4 => rApp D y H4 (Pv D (i + 1)) else Pv D (i + 1) H3)
    (hd : ∀ D H', H D = none → Pv D z.cps.size H' → Q (.ref D) H') : kLcS g tt te vs σ (.str z) H Q :=
  ⟨z, rfl, fun D hD => lc_it walk_str (Pv D) (h0 D _ hD (Keep.new hD) upd_same) (fun _ _ _ _ => trivial) (fun i v H' H'' _ p y => by
    obtain ⟨rfl, c, e, rfl⟩ := y
    exact hs D i c _ hD e p) (fun H' p => hd D H' hD p)⟩
end
/-! texts as lists of codes -/
def tx (l : List Nat) : Str := ⟨l.toArray⟩
theorem tx_len (l : List Nat) : (tx l).length = l.length := by simp [tx, Str.length]
theorem tx_app (l m : List Nat) : tx l ++ tx m = tx (l ++ m) := by
  show Str.append (tx l) (tx m) = _
  simp [tx, Str.append]
theorem tx_cps (l : List Nat) : (tx l).cps.toList = l := by simp [tx]
theorem tx_inj {l m : List Nat} (h : tx l = tx m) : l = m := by
  have := congrArg (fun s : Str => s.cps.toList) h
  simpa [tx] using this
theorem tx_of (s : Str) : ∃ l, s = tx l := ⟨s.cps.toList, by cases s; simp [tx]⟩
theorem tx_eq {l m : List Nat} : decide (tx l = tx m) = decide (l = m) := by
  by_cases h : l = m
  · subst h; simp
  · rw [decide_eq_false h, decide_eq_false (fun q => h (tx_inj q))]
theorem joinL_nil : ∀ ys : List (List Nat), TL.joinL [] ys = ys.flatten
  | [] => rfl
  | [p] => by simp [TL.joinL]
  | p :: q :: r => by
    show p ++ ([] ++ TL.joinL [] (q :: r)) = _
    rw [joinL_nil (q :: r)]; simp
theorem tx_join (ys : List (List Nat)) : Txt.join (tx []) (ys.map tx) = tx ys.flatten := by
  have h := SX.join_S [] ys
  rw [joinL_nil] at h
  exact h
theorem cut_tx (l : List Nat) (s e : Nat) : cutS (tx l) (some (s : Int)) (some (e : Int)) = tx ((l.drop (min s l.length)).take (min e l.length - min s l.length)) := by
  unfold cutS
  rw [tx_cps, tx_len, HT.sIx_nat, HT.sIx_nat]; rfl
theorem cut_tx0 (l : List Nat) (e : Nat) : cutS (tx l) none (some (e : Int)) = tx (l.take e) := by
  unfold cutS
  rw [tx_cps, tx_len, HT.sIx_nat, HT.sIx_none, List.drop_zero, Nat.sub_zero, ← List.take_take, List.take_length]; rfl
theorem atI_tx {l : List Nat} {i : Nat} {c : Nat} (h : l[i]? = some c) : atI (tx l).cps.toList (i : Int) = some c := by rw [tx_cps]; exact atI_nat h
/-! the same rules, the frozen part named: so that a reading never hangs on a block's context -/
/-- str.join of a list of texts -/
def rJoin (K : PySem.W.Frag) : V → List V → Hp → VK → Prop := fun x xs H Q => ∃ a p, ∃ ys : List Str, x = .str a ∧ xs = [.ref p] ∧ (SqL K H p (ys.map V.str) ∨ SqT K H p (ys.map V.str)) ∧
    (ys.map (·.length)).sum + ys.length * a.length ≤ 16777216 ∧ Q (.str (Txt.join a ys)) H
theorem ix_listK {X : Cx} {K : PySem.W.Frag} (hK : X.K = K := by rfl) : IxR X (rIxL K) := by subst hK; exact ix_list
theorem ix_tupK {X : Cx} {K : PySem.W.Frag} (hK : X.K = K := by rfl) : IxR X (rIxT K) := by subst hK; exact ix_tup
theorem ix_ltK {X : Cx} {K : PySem.W.Frag} (hK : X.K = K := by rfl) : IxR X (rIxLT K) := by subst hK; exact ix_lt
theorem sl_listK {X : Cx} {K : PySem.W.Frag} (hK : X.K = K := by rfl) : SlR X (rSlL K) := by subst hK; exact sl_list
theorem sl_tupK {X : Cx} {K : PySem.W.Frag} (hK : X.K = K := by rfl) : SlR X (rSlT K) := by subst hK; exact sl_tup
theorem call_lenLK {X : Cx} {K : PySem.W.Frag} (hK : X.K = K := by rfl) : CallR X (.builtin "len") (rLen K) := by subst hK; exact call_lenL
theorem call_listLK {X : Cx} {K : PySem.W.Frag} (hK : X.K = K := by rfl) : CallR X (.type "list") (rListL K) := by subst hK; exact call_listL
theorem call_tupleLK {X : Cx} {K : PySem.W.Frag} (hK : X.K = K := by rfl) : CallR X (.type "tuple") (rTupL K) := by subst hK; exact call_tupleL
theorem op_in_seqK {X : Cx} {K : PySem.W.Frag} (hK : X.K = K := by rfl) : OpR X (compareOp .In) (rIn K false) := by subst hK; exact op_in_seq
theorem op_notIn_seqK {X : Cx} {K : PySem.W.Frag} (hK : X.K = K := by rfl) : OpR X (compareOp .NotIn) (rIn K true) := by subst hK; exact op_notIn_seq
theorem op_eqDK {X : Cx} {K : PySem.W.Frag} (hu : X.A.units + 64 < cLine) (hK : X.K = K := by rfl) : OpR X (compareOp .Eq) (rEqD K) := by subst hK; exact op_eqD hu
theorem op_neDK {X : Cx} {K : PySem.W.Frag} (hu : X.A.units + 64 < cLine) (hK : X.K = K := by rfl) : OpR X (compareOp .NotEq) (rNeD K) := by subst hK; exact op_neD hu
theorem op_catTK {X : Cx} {K : PySem.W.Frag} (hK : X.K = K := by rfl) : OpR X (binaryOp .Add) (rCatT K) := by subst hK; exact op_catT
theorem call_isiK {X : Cx} {K : PySem.W.Frag} (hK : X.K = K := by rfl) : CallR X (.builtin "isinstance") (rIsi K) := by subst hK; exact call_isi
theorem call_isiTK {X : Cx} {K : PySem.W.Frag} (hK : X.K = K := by rfl) : CallR X (.builtin "isinstance") (rIsiT K) := by subst hK; exact call_isiT
theorem cr_sumK {X : Cx} {K : PySem.W.Frag} (hc : X.calm = true) (hK : X.K = K := by rfl) : CallR X (.builtin "sum") (rSum K) := by subst hK; exact cr_sum hc
theorem cr_minK {X : Cx} {K : PySem.W.Frag} (hc : X.calm = true) (hK : X.K = K := by rfl) : CallR X (.builtin "min") (rMin K) := by subst hK; exact cr_min hc
theorem cr_maxK {X : Cx} {K : PySem.W.Frag} (hc : X.calm = true) (hK : X.K = K := by rfl) : CallR X (.builtin "max") (rMax K) := by subst hK; exact cr_max hc
theorem cr_allK {X : Cx} {K : PySem.W.Frag} (hc : X.calm = true) (hK : X.K = K := by rfl) : CallR X (.builtin "all") (rAll K) := by subst hK; exact cr_all hc
theorem get_listK {X : Cx} {K : PySem.W.Frag} (hK : X.K = K := by rfl) : PGet X (rIxL K) := by subst hK; exact get_list
theorem pi_listK {X : Cx} {K : PySem.W.Frag} {tg l : Expr} {tl : TE} (hl : PE X l tl) (hK : X.K = K := by rfl) : PI X tg l (iList K tl) := by subst hK; exact pi_list hl
theorem pi_tupK {X : Cx} {K : PySem.W.Frag} {tg l : Expr} {tl : TE} (hl : PE X l tl) (hK : X.K = K := by rfl) : PI X tg l (iTup K tl) := by subst hK; exact pi_tup hl
theorem pg_tupK {X : Cx} {K : PySem.W.Frag} {es : List Expr} {pos : Pos} {k : Nat} {t : TGs} {n : Nat} (hc : X.calm = true) (h : PGs X es t) (hn : (assignEach es X.env).length = n := by rfl) (hst : (assignEach es X.env).findIdx? (·.1) = none := by rfl) (hK : X.K = K := by rfl) : PG X (.Tuple es k pos) (gTup K n t) := by subst hK; exact pg_tup hc h hn hst
theorem pg_unlK {X : Cx} {K : PySem.W.Frag} {es : List Expr} {pos : Pos} {k : Nat} {t : TGs} {n : Nat} (hc : X.calm = true) (h : PGs X es t) (hn : (assignEach es X.env).length = n := by rfl) (hst : (assignEach es X.env).findIdx? (·.1) = none := by rfl) (hK : X.K = K := by rfl) : PG X (.Tuple es k pos) (gUnl K n t) := by subst hK; exact pg_unl hc h hn hst
theorem pi_zipK {X : Cx} {K : PySem.W.Frag} {e e2 : Expr} {ta : TA} {p pos tpos : Pos} {elts : List Expr} {kk : Nat} (hg : Gl X "zip") (hm : X.mg "zip" = none) (ha : PA X [e, e2] ta) (hs : starEach [e, e2] X.env = (false, eval e X.env) :: starEach [e2] X.env := by rfl) (hpl : (backTo pos (starEach [e2] X.env)).any (·.1) = false := by rfl) (hK : X.K = K := by rfl) : PI X (.Tuple elts kk tpos) (.Call (.Name "zip" p) [e, e2] [] pos) (iZip K ta) := by subst hK; exact pi_zip hg hm ha hs hpl
theorem pi_enumK {X : Cx} {K : PySem.W.Frag} {e : Expr} {ta : TA} {p pos tpos : Pos} {elts : List Expr} {kk : Nat} (hg : Gl X "enumerate") (hm : X.mg "enumerate" = none) (ha : PA X [e] ta) (hs : starEach [e] X.env = [(false, eval e X.env)] := by rfl) (hK : X.K = K := by rfl) : PI X (.Tuple elts kk tpos) (.Call (.Name "enumerate" p) [e] [] pos) (iEnum K ta) := by subst hK; exact pi_enum hg hm ha hs
theorem pe_fldK {X : Cx} {K : PySem.W.Frag} {e : Expr} {f : Str} {pos : Pos} {ta : TE} (he : PE X e ta) (hb : attributeBase e f X.env (eval e X.env) = eval e X.env) (hK : X.K = K := by rfl) : PE X (.Attribute e f pos) (tFld K ta f) := by subst hK; exact pe_fld he hb
theorem ps_fldK {X : Cx} {K : PySem.W.Frag} {o value : Expr} {f : Str} {pos pos' : Pos} {ta tv : TE} (ha : PE X o ta) (hv : PE X value tv) (hs : swapsWith value (some (.Attribute o f pos')) pos.line X.env = pure false) (hK : X.K = K := by rfl) : PS X (.Assign [.Attribute o f pos'] value pos) (sFld K ta tv f) := by subst hK; exact ps_fld ha hv hs
theorem ps_fldaugK {X : Cx} {K : PySem.W.Frag} {o value : Expr} {f : Str} {pos tpos : Pos} {ta tv : TE} {op : Operator} {rd : V → V → Hp → VK → Prop} (ha : PE X o ta) (hv : PE X value tv) (hop : InOp X op rd) (hK : X.K = K := by rfl) : PS X (.AugAssign (.Attribute o f tpos) op value pos) (sFldAug K ta tv rd f) := by subst hK; exact ps_fldaug ha hv hop
theorem pe_bm0K {X : Cx} {K : PySem.W.Frag} {o e : Expr} {es : List Expr} {to : TE} {t : TA} {name : Str} {apos cpos : Pos} {T id : String} {r : V → List V → Hp → VK → Prop} (pa : PlainAttrs T) (slot : Slot T name id) (hty : typeOf (.builtin id) = pure (.type "method_descriptor")) (hm : MtR X id r) (ho : PE X o to) (hbase : attributeBase o name X.env (eval o X.env) = eval o X.env := by rfl) (hline : (apos.endLine == cpos.line) = true := by rfl) (hK : X.K = K := by rfl) : PE X (.Call (.Attribute o name apos) [] [] cpos) (tBM0 K T r to) := by subst hK; exact pe_bm0 pa slot hty hm ho hbase hline
theorem pe_bmK {X : Cx} {K : PySem.W.Frag} {o e : Expr} {es : List Expr} {to : TE} {t : TA} {name : Str} {apos cpos : Pos} {T id : String} {r : V → List V → Hp → VK → Prop} (pa : PlainAttrs T) (slot : Slot T name id) (hty : typeOf (.builtin id) = pure (.type "method_descriptor")) (hm : MtR X id r) (ho : PE X o to) (ha : PA X (e :: es) t) (hbase : attributeBase o name X.env (eval o X.env) = eval o X.env := by rfl)
    (hfew : ((backTo cpos (starEach (e :: es) X.env)).all (fun x => !x.1) && (backToKw cpos (keywordEach [] X.env)).all (fun x => x.1.isSome)
      && decide ((e :: es).length + ([] : List Keyword).length + (if ([] : List Keyword).isEmpty then 0 else 1) < 30)) = true := by rfl)
    (hline : (apos.endLine == cpos.line) = true := by rfl) (hs : starEach (e :: es) X.env = (false, eval e X.env) :: starEach es X.env := by rfl) (hplain : (backTo cpos (starEach es X.env)).any (·.1) = false := by rfl) (hK : X.K = K := by rfl) : PE X (.Call (.Attribute o name apos) (e :: es) [] cpos) (tBM K T r to t) := by subst hK; exact pe_bm pa slot hty hm ho ha hbase hfew hline hs hplain
theorem pe_joinK {X : Cx} {K : PySem.W.Frag} {o e : Expr} {to te : TE} {apos pos : Pos} (ho : PE X o to) (he : PE X e te) (hs : starEach [e] X.env = [(false, eval e X.env)] := by rfl) (hbase : attributeBase o "join" X.env (eval o X.env) = eval o X.env := by rfl) (hline : (apos.endLine == pos.line) = true := by rfl) (hK : X.K = K := by rfl) : PE X (.Call (.Attribute o "join" apos) [e] [] pos) (tM1 (rJoin K) to te) := by subst hK; exact pe_join ho he hs hbase hline
def rStrR (x : V) (R : Prop) : Prop := (∃ a, x = .str a) ∧ R
theorem e_m1 {r : V → List V → Hp → VK → Prop} {to te : TE} {σ : L2.St} {H : Hp} {Q : VK} (h : to σ H fun x H1 => rStrR x (te σ H1 fun y H2 => r x [y] H2 Q)) : tM1 r to te σ H Q := h
theorem w_strR {a : Str} {R : Prop} (h : R) : rStrR (.str a) R := ⟨⟨a, rfl⟩, h⟩
end W

end
section
set_option maxHeartbeats 4000000
/-! W3: exceptions of the program's own classes -/
namespace W
open PySem PySem.Spec L2
theorem exm_self {K : PySem.W.Frag} {S : Addr} (h1 : PySem.W.subIn K (.ref S) (.type "BaseException") = some true) (h2 : PySem.W.isClsIn K S = true) (h3 : PySem.W.typeIn K (.ref S) = some (.type "type")) (h4 : PySem.W.subIn K (.ref S) (.ref S) = some true) :
    PySem.W.exmOne K (.ref S) (.ref S) = some true := by
  have e1 : (PySem.W.subIn K (.ref S) (.type "BaseException") == some true) = true := by rw [h1] <;> rfl
  have e2 : ((PySem.W.clsIn K S).isSome && PySem.W.typeIn K (.ref S) == some (.type "type")) = true := by
    have h2' : (PySem.W.clsIn K S).isSome = true := h2
    rw [h2', h3] <;> rfl
  show (if (PySem.W.subIn K (.ref S) (.type "BaseException") == some true) = true then (if ((PySem.W.clsIn K S).isSome && PySem.W.typeIn K (.ref S) == some (.type "type")) = true then PySem.W.subIn K (.ref S) (.ref S) else none) else none) = some true
  rw [if_pos e1, if_pos e2]
  exact h4
section
variable {X : Cx} {C c : Addr} {bmB : List Value} {B newId initId : String} {Wx Wout : WX} {K : PySem.W.Frag}
/-- raise C('..') -/
def tRaise (C : Addr) (Wx : WX) : TS := fun _ σ H => Wx (.ref C) none σ H
theorem ps_raise1 {x m : Str} {j : Nat} {p p2 pos pos2 : Pos} (hc : X.calm = true) (tk : Takes X Wx) (F : ExcBaseFacts B newId initId bmB) (q : PySem.W.excIn X.K C bmB newId = true) (gC : X.mg x = some (.ref C)) (kC : PySem.W.keepIn X.K (.ref C) = true)
    (r : Raises X (.ref C)) (hg : Gl X x) (hdb : (x == ("__debug__" : Str)) = false := by decide) : PS X (.Raise (some (.Call (.Name x p) [.Constant (.str m) j p2] [] pos)) none pos2) (tRaise C Wx) :=
  ps_raise hc tk (pmk_own F q gC kC r hg hdb)
/-- try: .. except c: .. -/
def tTry (K : PySem.W.Frag) (c : Value) (tb : WX → TS) (ts : Addr → Value → Option Addr → TS) (Wout : WX) : TS := fun D σ H => tb (wOnly K c ts Wout D) D σ H
theorem ps_try1 {x : Str} {c : Value} {body suite : List Stmt} {b₀ : Stmt} {np pos pos' : Pos} {tb : WX → TS} {ts : Addr → Value → Option Addr → TS} (hs : X.stack = X.env :: X.outer) (hf : X.env.frame = some X.env.locals) (hc : Names X x c) (tk : Takes X Wout)
    (hb : ∀ (W : WX) (pn : List (Addr × Obj)) (xe : Value → Shared → Prop), Takes (X.tr pn xe) W → PassesOwn (model X.prog X.w) X.A X.env xe → PSs (X.tr pn xe) body (tb W))
    (hsu : ∀ (a : Addr) (oe : Obj) (cls : Value) (d : Option Addr) (pn : List (Addr × Obj)), Zc cls d oe → (∃ vs, oe.data = .fields vs) → PSs (X.suite a ((a, oe) :: pn)) (b₀ :: suite) (ts a cls d)) (hK : X.K = K := by rfl) :
    PS X (.Try body [.ExceptHandler (some (.Name x np)) none (b₀ :: suite) pos'] [] [] pos) (tTry K c tb ts Wout) := by
  subst hK; exact ps_try_only hs hf hc tk hb hsu
/-- o.m(..), its way out read at the slots -/
def tMethS (C : Addr) (m : Str) (sp : Sp) (E : St → XK) (ta : TE) (t : TA) : TE := fun σ H Q => ta σ H fun x H1 => ∃ a dx fs, x = .ref a ∧ H1 a = some (.ins C dx fs) ∧ fs.lookup m = none ∧
  t σ H1 fun vs H2 => sp (x :: vs) H2 Q (E σ)
theorem pe_meth0S {CX : CXT} {k : Nat} {f : Addr} {fd : FuncData} {ps : List Str} {sp : Sp} {E : St → XK} {m : Str} {pos apos : Pos} {o : Expr} {ta : TE} {pl : Sem Bool} (he : PE X o ta) (c : Cls X.K C) (hm : Meth X.K C m f) (F : FnOk X.prog X.w X.K X.mg X.base CX k f fd ps sp) (hr : Room k X.A) (hb : Binds X.K fd ps [])
    (hx : ∀ σ, PassesAt CX X σ (E σ))
    (ht : eval (.Call (.Attribute o m apos) [] [] pos) X.env = (do
      let ov ← eval o X.env
      standAt apos.atName
      let (f, first) ← holding [ov] (getMethod ov m pl)
      callWith pos f first (backTo pos (starEach [] X.env)) (backToKw pos (keywordEach [] X.env))) := by rfl) :
    PE X (.Call (.Attribute o m apos) [] [] pos) (tMethS C m sp E ta tNil) := by
  refine ⟨fun pins s σ H Q I h => ?_⟩
  refine PySem.W.methodCall_KW (pl := pl) (thn (he.run pins s σ H _ I h) fun u s1 ⟨x, H1, I1, rx, a, dx, fs, ex, ea, l, q⟩ => ?_) ht
  subst ex
  obtain rfl : u = Value.ref a := rx
  refine getmeth_ok I1 ea c hm l ?_
  exact PySem.W.callWith_K0 (first := [.ref a]) I1.kIn hm.kp (run_fnS (us := [.ref a]) (vs := [.ref a]) F hr hb (hx σ) I1 (.cons rfl .nil) q)
end
section
variable {σ : L2.St} {H : Hp} {Q : VK} {te ta : TE} {tr : TA} {K : PySem.W.Frag} {nx : L2.St → Hp → Prop} {rt : VK} {bk ct : L2.St → Hp → Prop}
theorem s_raise {C : Addr} {Wx : WX} {D : Ends} (h : Wx (.ref C) none σ H) : tRaise C Wx D σ H := h
theorem s_try {c : Value} {tb : WX → TS} {ts : Addr → Value → Option Addr → TS} {Wout : WX} {D : Ends} (h : tb (wOnly K c ts Wout D) D σ H) : tTry K c tb ts Wout D σ H := h
theorem e_methS {C : Addr} {m : Str} {sp : Sp} {E : L2.St → XK} (h : ta σ H fun x H1 => rMeth C m x H1 (tr σ H1 fun vs H2 => sp (x :: vs) H2 Q (E σ))) : tMethS C m sp E ta tr σ H Q := h
theorem w_only {c : Value} {ts : Addr → Value → Option Addr → TS} {Wout : WX} {D : Ends} {cls : Value} {d : Option Addr} (h : PySem.W.exmOne K cls c = some true) (q : ∀ a, H a = none → ts a cls d D σ H) : wOnly K c ts Wout D cls d σ H := ⟨true, h, fun _ => q, fun z => Bool.noConfusion z⟩
end
/-! o.f op= e -/
section
variable {σ : L2.St} {H : Hp} {ta tb : TE} {K : PySem.W.Frag} {nx : L2.St → Hp → Prop} {rt : VK} {bk ct : L2.St → Hp → Prop} {f : Str} {rd : V → V → Hp → VK → Prop}
def rPF (a C : Addr) (f : Str) (z : V) (H : Hp) (R : Hp → Prop) : Prop := ∃ dx fs, H a = some (.ins C dx fs) ∧ fs.length < 1000 ∧ R (upd H a (.ins C dx (putF f z fs)))
def rFA (K : PySem.W.Frag) (f : Str) (tb : TE) (rd : V → V → Hp → VK → Prop) (σ : L2.St) (x : V) (H : Hp) (R : Hp → Prop) : Prop := ∃ a C dx fs v, x = .ref a ∧ H a = some (.ins C dx fs) ∧ Cls K C ∧ NoAttr K C f ∧ fs.lookup f = some v ∧
  tb σ H fun y H2 => rd v y H2 fun z H3 => rPF a C f z H3 R
theorem s_fa (h : ta σ H fun x H1 => rFA K f tb rd σ x H1 fun H3 => nx σ H3) : sFldAug K ta tb rd f ⟨nx, rt, bk, ct⟩ σ H := h
theorem w_fa {a C dx : Addr} {fs : List (Str × V)} {v : V} {R : Hp → Prop} (h : H a = some (.ins C dx fs)) (c : Cls K C) (n : NoAttr K C f) (l : fs.lookup f = some v) (q : tb σ H fun y H2 => rd v y H2 fun z H3 => rPF a C f z H3 R) : rFA K f tb rd σ (.ref a) H R := ⟨a, C, dx, fs, v, rfl, h, c, n, l, q⟩
theorem w_pf {a C dx : Addr} {fs : List (Str × V)} {z : V} {R : Hp → Prop} (h : H a = some (.ins C dx fs)) (l : fs.length < 1000) (q : ∀ H1, Keep [a] H H1 → H1 a = some (.ins C dx (putF f z fs)) → R H1) : rPF a C f z H R := ⟨dx, fs, h, l, q _ (put_ins h) upd_same⟩
end
section
variable {H : Hp} {Q : VK} {i j : Int}
theorem w_rAdd (q : Q (.int (i + j)) H) : rAdd (.int i) (.int j) H Q := ⟨i, j, rfl, rfl, q⟩
theorem w_rSub (q : Q (.int (i - j)) H) : rSub (.int i) (.int j) H Q := ⟨i, j, rfl, rfl, q⟩
end
theorem carry0 {H H' : Hp} {a : Addr} {o : HO} (k : Keep [] H H') (h : H a = some o) : H' a = some o := k.get h (by simp)
end W

end
section
set_option maxHeartbeats 4000000
namespace My
open PySem L2 W
def topS (i : Nat) : Stmt := PySem.Challenge.pw_planwhole_k11_records.main.body.getD i (.Pass ⟨0, 0, 0, 0⟩)
abbrev s__wall : Stmt := topS 0
abbrev nm__wall : List Str := ["k"]
theorem sc__wall : FnScope nm__wall ["k"] (defScope s__wall) := ⟨rfl, rfl, rfl, by decide +kernel, rfl, by decide +kernel, by decide +kernel⟩
theorem st__wall (v0 : V) : start nm__wall [v0] = [some v0] := rfl
abbrev s_Reader___init__ : Stmt := inClass (topS 6) 0
abbrev nm_Reader___init__ : List Str := ["self", "data"]
theorem sc_Reader___init__ : FnScope nm_Reader___init__ ["self", "data"] (defScope s_Reader___init__) := ⟨rfl, rfl, rfl, by decide +kernel, rfl, by decide +kernel, by decide +kernel⟩
theorem st_Reader___init__ (v0 v1 : V) : start nm_Reader___init__ [v0, v1] = [some v0, some v1] := rfl
abbrev s_Reader_read_byte : Stmt := inClass (topS 6) 1
abbrev nm_Reader_read_byte : List Str := ["self"]
theorem sc_Reader_read_byte : FnScope nm_Reader_read_byte ["self"] (defScope s_Reader_read_byte) := ⟨rfl, rfl, rfl, by decide +kernel, rfl, by decide +kernel, by decide +kernel⟩
theorem st_Reader_read_byte (v0 : V) : start nm_Reader_read_byte [v0] = [some v0] := rfl
abbrev s_Reader_read_choice : Stmt := inClass (topS 6) 2
abbrev nm_Reader_read_choice : List Str := ["self", "count"]
theorem sc_Reader_read_choice : FnScope nm_Reader_read_choice ["self", "count"] (defScope s_Reader_read_choice) := ⟨rfl, rfl, rfl, by decide +kernel, rfl, by decide +kernel, by decide +kernel⟩
theorem st_Reader_read_choice (v0 v1 : V) : start nm_Reader_read_choice [v0, v1] = [some v0, some v1] := rfl
abbrev s_Reader_end : Stmt := inClass (topS 6) 3
abbrev nm_Reader_end : List Str := ["self"]
theorem sc_Reader_end : FnScope nm_Reader_end ["self"] (defScope s_Reader_end) := ⟨rfl, rfl, rfl, by decide +kernel, rfl, by decide +kernel, by decide +kernel⟩
theorem st_Reader_end (v0 : V) : start nm_Reader_end [v0] = [some v0] := rfl
abbrev s_Reader_read_number : Stmt := inClass (topS 6) 4
abbrev nm_Reader_read_number : List Str := ["self", "total", "factor", "index", "byte"]
theorem sc_Reader_read_number : FnScope nm_Reader_read_number ["self"] (defScope s_Reader_read_number) := ⟨rfl, rfl, rfl, by decide +kernel, rfl, by decide +kernel, by decide +kernel⟩
theorem st_Reader_read_number (v0 : V) : start nm_Reader_read_number [v0] = [some v0, none, none, none, none] := rfl
abbrev s_Reader_read_count : Stmt := inClass (topS 6) 5
abbrev nm_Reader_read_count : List Str := ["self"]
theorem sc_Reader_read_count : FnScope nm_Reader_read_count ["self"] (defScope s_Reader_read_count) := ⟨rfl, rfl, rfl, by decide +kernel, rfl, by decide +kernel, by decide +kernel⟩
theorem st_Reader_read_count (v0 : V) : start nm_Reader_read_count [v0] = [some v0] := rfl
abbrev s_Reader_read_character : Stmt := inClass (topS 6) 6
abbrev nm_Reader_read_character : List Str := ["self"]
theorem sc_Reader_read_character : FnScope nm_Reader_read_character ["self"] (defScope s_Reader_read_character) := ⟨rfl, rfl, rfl, by decide +kernel, rfl, by decide +kernel, by decide +kernel⟩
theorem st_Reader_read_character (v0 : V) : start nm_Reader_read_character [v0] = [some v0] := rfl
abbrev s_Reader_read_string : Stmt := inClass (topS 6) 7
abbrev nm_Reader_read_string : List Str := ["self"]
theorem sc_Reader_read_string : FnScope nm_Reader_read_string ["self"] (defScope s_Reader_read_string) := ⟨rfl, rfl, rfl, by decide +kernel, rfl, by decide +kernel, by decide +kernel⟩
theorem st_Reader_read_string (v0 : V) : start nm_Reader_read_string [v0] = [some v0] := rfl
abbrev s_Reader_read_mark : Stmt := inClass (topS 6) 8
abbrev nm_Reader_read_mark : List Str := ["self"]
theorem sc_Reader_read_mark : FnScope nm_Reader_read_mark ["self"] (defScope s_Reader_read_mark) := ⟨rfl, rfl, rfl, by decide +kernel, rfl, by decide +kernel, by decide +kernel⟩
theorem st_Reader_read_mark (v0 : V) : start nm_Reader_read_mark [v0] = [some v0] := rfl
abbrev s_Reader_read_deed : Stmt := inClass (topS 6) 9
abbrev nm_Reader_read_deed : List Str := ["self"]
theorem sc_Reader_read_deed : FnScope nm_Reader_read_deed ["self"] (defScope s_Reader_read_deed) := ⟨rfl, rfl, rfl, by decide +kernel, rfl, by decide +kernel, by decide +kernel⟩
theorem st_Reader_read_deed (v0 : V) : start nm_Reader_read_deed [v0] = [some v0] := rfl
abbrev s_Reader_read_deeds : Stmt := inClass (topS 6) 10
abbrev nm_Reader_read_deeds : List Str := ["self"]
theorem sc_Reader_read_deeds : FnScope nm_Reader_read_deeds ["self"] (defScope s_Reader_read_deeds) := ⟨rfl, rfl, rfl, by decide +kernel, rfl, by decide +kernel, by decide +kernel⟩
theorem st_Reader_read_deeds (v0 : V) : start nm_Reader_read_deeds [v0] = [some v0] := rfl
abbrev s_Reader_read_triple : Stmt := inClass (topS 6) 11
abbrev nm_Reader_read_triple : List Str := ["self"]
theorem sc_Reader_read_triple : FnScope nm_Reader_read_triple ["self"] (defScope s_Reader_read_triple) := ⟨rfl, rfl, rfl, by decide +kernel, rfl, by decide +kernel, by decide +kernel⟩
theorem st_Reader_read_triple (v0 : V) : start nm_Reader_read_triple [v0] = [some v0] := rfl
abbrev s_Reader_read_triples : Stmt := inClass (topS 6) 12
abbrev nm_Reader_read_triples : List Str := ["self"]
theorem sc_Reader_read_triples : FnScope nm_Reader_read_triples ["self"] (defScope s_Reader_read_triples) := ⟨rfl, rfl, rfl, by decide +kernel, rfl, by decide +kernel, by decide +kernel⟩
theorem st_Reader_read_triples (v0 : V) : start nm_Reader_read_triples [v0] = [some v0] := rfl
abbrev s_Reader_read_packet : Stmt := inClass (topS 6) 13
abbrev nm_Reader_read_packet : List Str := ["self"]
theorem sc_Reader_read_packet : FnScope nm_Reader_read_packet ["self"] (defScope s_Reader_read_packet) := ⟨rfl, rfl, rfl, by decide +kernel, rfl, by decide +kernel, by decide +kernel⟩
theorem st_Reader_read_packet (v0 : V) : start nm_Reader_read_packet [v0] = [some v0] := rfl
abbrev s_write_number : Stmt := topS 8
abbrev nm_write_number : List Str := ["number", "data"]
theorem sc_write_number : FnScope nm_write_number ["number"] (defScope s_write_number) := ⟨rfl, rfl, rfl, by decide +kernel, rfl, by decide +kernel, by decide +kernel⟩
theorem st_write_number (v0 : V) : start nm_write_number [v0] = [some v0, none] := rfl
abbrev s_checksum : Stmt := topS 11
abbrev nm_checksum : List Str := ["data", "total", "byte"]
theorem sc_checksum : FnScope nm_checksum ["data"] (defScope s_checksum) := ⟨rfl, rfl, rfl, by decide +kernel, rfl, by decide +kernel, by decide +kernel⟩
theorem st_checksum (v0 : V) : start nm_checksum [v0] = [some v0, none, none] := rfl
abbrev s_write_record : Stmt := topS 12
abbrev nm_write_record : List Str := ["data", "total", "tail"]
theorem sc_write_record : FnScope nm_write_record ["data"] (defScope s_write_record) := ⟨rfl, rfl, rfl, by decide +kernel, rfl, by decide +kernel, by decide +kernel⟩
theorem st_write_record (v0 : V) : start nm_write_record [v0] = [some v0, none, none] := rfl
abbrev s__read_size : Stmt := topS 13
abbrev nm__read_size : List Str := ["data", "start", "reader", "size"]
theorem sc__read_size : FnScope nm__read_size ["data", "start"] (defScope s__read_size) := ⟨rfl, rfl, rfl, by decide +kernel, rfl, by decide +kernel, by decide +kernel⟩
theorem st__read_size (v0 v1 : V) : start nm__read_size [v0, v1] = [some v0, some v1, none, none] := rfl
abbrev s_read_records : Stmt := topS 14
abbrev nm_read_records : List Str := ["data", "records", "start", "found", "begin", "size", "record", "end"]
theorem sc_read_records : FnScope nm_read_records ["data"] (defScope s_read_records) := ⟨rfl, rfl, rfl, by decide +kernel, rfl, by decide +kernel, by decide +kernel⟩
theorem st_read_records (v0 : V) : start nm_read_records [v0] = [some v0, none, none, none, none, none, none, none] := rfl
abbrev s__law_mix : Stmt := topS 16
abbrev nm__law_mix : List Str := ["cell", "k", "value"]
theorem sc__law_mix : FnScope nm__law_mix ["cell", "k"] (defScope s__law_mix) := ⟨rfl, rfl, rfl, by decide +kernel, rfl, by decide +kernel, by decide +kernel⟩
theorem st__law_mix (v0 v1 : V) : start nm__law_mix [v0, v1] = [some v0, some v1, none] := rfl
abbrev s__law_draws : Stmt := topS 17
abbrev nm__law_draws : List Str := ["script", "draws", "k", "cell", "place"]
theorem sc__law_draws : FnScope nm__law_draws ["script"] (defScope s__law_draws) := ⟨rfl, rfl, rfl, by decide +kernel, rfl, by decide +kernel, by decide +kernel⟩
theorem st__law_draws (v0 : V) : start nm__law_draws [v0] = [some v0, none, none, none, none] := rfl
abbrev s__law_at : Stmt := topS 18
abbrev nm__law_at : List Str := ["draws", "index"]
theorem sc__law_at : FnScope nm__law_at ["draws", "index"] (defScope s__law_at) := ⟨rfl, rfl, rfl, by decide +kernel, rfl, by decide +kernel, by decide +kernel⟩
theorem st__law_at (v0 v1 : V) : start nm__law_at [v0, v1] = [some v0, some v1] := rfl
abbrev s__law_is_integer : Stmt := topS 19
abbrev nm__law_is_integer : List Str := ["actual"]
theorem sc__law_is_integer : FnScope nm__law_is_integer ["actual"] (defScope s__law_is_integer) := ⟨rfl, rfl, rfl, by decide +kernel, rfl, by decide +kernel, by decide +kernel⟩
theorem st__law_is_integer (v0 : V) : start nm__law_is_integer [v0] = [some v0] := rfl
abbrev s__law_same : Stmt := topS 20
abbrev nm__law_same : List Str := ["actual", "expected", "k"]
theorem sc__law_same : FnScope nm__law_same ["actual", "expected"] (defScope s__law_same) := ⟨rfl, rfl, rfl, by decide +kernel, rfl, by decide +kernel, by decide +kernel⟩
theorem st__law_same (v0 v1 : V) : start nm__law_same [v0, v1] = [some v0, some v1, none] := rfl
abbrev s__law_next : Stmt := topS 21
abbrev nm__law_next : List Str := ["state", "limit"]
theorem sc__law_next : FnScope nm__law_next ["state", "limit"] (defScope s__law_next) := ⟨rfl, rfl, rfl, by decide +kernel, rfl, by decide +kernel, by decide +kernel⟩
theorem st__law_next (v0 v1 : V) : start nm__law_next [v0, v1] = [some v0, some v1] := rfl
abbrev s__law_number : Stmt := topS 22
abbrev nm__law_number : List Str := ["number", "data"]
theorem sc__law_number : FnScope nm__law_number ["number"] (defScope s__law_number) := ⟨rfl, rfl, rfl, by decide +kernel, rfl, by decide +kernel, by decide +kernel⟩
theorem st__law_number (v0 : V) : start nm__law_number [v0] = [some v0, none] := rfl
abbrev s__law_checksum : Stmt := topS 23
abbrev nm__law_checksum : List Str := ["data", "total", "byte"]
theorem sc__law_checksum : FnScope nm__law_checksum ["data"] (defScope s__law_checksum) := ⟨rfl, rfl, rfl, by decide +kernel, rfl, by decide +kernel, by decide +kernel⟩
theorem st__law_checksum (v0 : V) : start nm__law_checksum [v0] = [some v0, none, none] := rfl
abbrev s__law_record : Stmt := topS 24
abbrev nm__law_record : List Str := ["data", "total"]
theorem sc__law_record : FnScope nm__law_record ["data"] (defScope s__law_record) := ⟨rfl, rfl, rfl, by decide +kernel, rfl, by decide +kernel, by decide +kernel⟩
theorem st__law_record (v0 : V) : start nm__law_record [v0] = [some v0, none] := rfl
abbrev s__law_bytes : Stmt := topS 25
abbrev nm__law_bytes : List Str := ["state", "count", "pick", "start", "k"]
theorem sc__law_bytes : FnScope nm__law_bytes ["state"] (defScope s__law_bytes) := ⟨rfl, rfl, rfl, by decide +kernel, rfl, by decide +kernel, by decide +kernel⟩
theorem st__law_bytes (v0 : V) : start nm__law_bytes [v0] = [some v0, none, none, none, none] := rfl
abbrev s__law_behind : Stmt := topS 26
abbrev nm__law_behind : List Str := ["state", "data", "record", "further", "pick", "at", "size", "needless"]
theorem sc__law_behind : FnScope nm__law_behind ["state"] (defScope s__law_behind) := ⟨rfl, rfl, rfl, by decide +kernel, rfl, by decide +kernel, by decide +kernel⟩
theorem st__law_behind (v0 : V) : start nm__law_behind [v0] = [some v0, none, none, none, none, none, none, none] := rfl
abbrev s_law : Stmt := topS 27
abbrev nm_law : List Str := ["script", "state", "records", "k", "data", "sizes", "record", "passed", "whole", "end", "count", "size"]
theorem sc_law : FnScope nm_law ["script"] (defScope s_law) := ⟨rfl, rfl, rfl, by decide +kernel, rfl, by decide +kernel, by decide +kernel⟩
theorem st_law (v0 : V) : start nm_law [v0] = [some v0, none, none, none, none, none, none, none, none, none, none, none] := rfl
structure Adr where
  f__wall : Addr
  d__wall : FuncData
  f_Reader___init__ : Addr
  d_Reader___init__ : FuncData
  f_Reader_read_byte : Addr
  d_Reader_read_byte : FuncData
  f_Reader_read_choice : Addr
  d_Reader_read_choice : FuncData
  f_Reader_end : Addr
  d_Reader_end : FuncData
  f_Reader_read_number : Addr
  d_Reader_read_number : FuncData
  f_Reader_read_count : Addr
  d_Reader_read_count : FuncData
  f_Reader_read_character : Addr
  d_Reader_read_character : FuncData
  f_Reader_read_string : Addr
  d_Reader_read_string : FuncData
  f_Reader_read_mark : Addr
  d_Reader_read_mark : FuncData
  f_Reader_read_deed : Addr
  d_Reader_read_deed : FuncData
  f_Reader_read_deeds : Addr
  d_Reader_read_deeds : FuncData
  f_Reader_read_triple : Addr
  d_Reader_read_triple : FuncData
  f_Reader_read_triples : Addr
  d_Reader_read_triples : FuncData
  f_Reader_read_packet : Addr
  d_Reader_read_packet : FuncData
  f_write_number : Addr
  d_write_number : FuncData
  f_checksum : Addr
  d_checksum : FuncData
  f_write_record : Addr
  d_write_record : FuncData
  f__read_size : Addr
  d__read_size : FuncData
  f_read_records : Addr
  d_read_records : FuncData
  f__law_mix : Addr
  d__law_mix : FuncData
  f__law_draws : Addr
  d__law_draws : FuncData
  f__law_at : Addr
  d__law_at : FuncData
  f__law_is_integer : Addr
  d__law_is_integer : FuncData
  f__law_same : Addr
  d__law_same : FuncData
  f__law_next : Addr
  d__law_next : FuncData
  f__law_number : Addr
  d__law_number : FuncData
  f__law_checksum : Addr
  d__law_checksum : FuncData
  f__law_record : Addr
  d__law_record : FuncData
  f__law_bytes : Addr
  d__law_bytes : FuncData
  f__law_behind : Addr
  d__law_behind : FuncData
  f_law : Addr
  d_law : FuncData
  C_PlanwholeError : Addr
  C_DamagedPacket : Addr
  C_Reader : Addr
  v_NUMBER_BYTES : Value
  v_CHECKSUM_LIMIT : Value
structure Env (K : PySem.W.Frag) (mg : Str → Option Value) (A : Adr) : Prop where
  F__wall : Fun K "_wall" "_wall" s__wall A.f__wall A.d__wall
  b__wall : Binds K A.d__wall ["k"] []
  m__wall : mg "_wall" = some (.ref A.f__wall)
  k__wall : PySem.W.keepIn K (.ref A.f__wall) = true
  F_Reader___init__ : Fun K "__init__" "Reader.__init__" s_Reader___init__ A.f_Reader___init__ A.d_Reader___init__
  b_Reader___init__ : Binds K A.d_Reader___init__ ["self", "data"] []
  h_Reader___init__ : Meth K A.C_Reader "__init__" A.f_Reader___init__
  F_Reader_read_byte : Fun K "read_byte" "Reader.read_byte" s_Reader_read_byte A.f_Reader_read_byte A.d_Reader_read_byte
  b_Reader_read_byte : Binds K A.d_Reader_read_byte ["self"] []
  h_Reader_read_byte : Meth K A.C_Reader "read_byte" A.f_Reader_read_byte
  F_Reader_read_choice : Fun K "read_choice" "Reader.read_choice" s_Reader_read_choice A.f_Reader_read_choice A.d_Reader_read_choice
  b_Reader_read_choice : Binds K A.d_Reader_read_choice ["self", "count"] []
  h_Reader_read_choice : Meth K A.C_Reader "read_choice" A.f_Reader_read_choice
  F_Reader_end : Fun K "end" "Reader.end" s_Reader_end A.f_Reader_end A.d_Reader_end
  b_Reader_end : Binds K A.d_Reader_end ["self"] []
  h_Reader_end : Meth K A.C_Reader "end" A.f_Reader_end
  F_Reader_read_number : Fun K "read_number" "Reader.read_number" s_Reader_read_number A.f_Reader_read_number A.d_Reader_read_number
  b_Reader_read_number : Binds K A.d_Reader_read_number ["self"] []
  h_Reader_read_number : Meth K A.C_Reader "read_number" A.f_Reader_read_number
  F_Reader_read_count : Fun K "read_count" "Reader.read_count" s_Reader_read_count A.f_Reader_read_count A.d_Reader_read_count
  b_Reader_read_count : Binds K A.d_Reader_read_count ["self"] []
  h_Reader_read_count : Meth K A.C_Reader "read_count" A.f_Reader_read_count
  F_Reader_read_character : Fun K "read_character" "Reader.read_character" s_Reader_read_character A.f_Reader_read_character A.d_Reader_read_character
  b_Reader_read_character : Binds K A.d_Reader_read_character ["self"] []
  h_Reader_read_character : Meth K A.C_Reader "read_character" A.f_Reader_read_character
  F_Reader_read_string : Fun K "read_string" "Reader.read_string" s_Reader_read_string A.f_Reader_read_string A.d_Reader_read_string
  b_Reader_read_string : Binds K A.d_Reader_read_string ["self"] []
  h_Reader_read_string : Meth K A.C_Reader "read_string" A.f_Reader_read_string
  F_Reader_read_mark : Fun K "read_mark" "Reader.read_mark" s_Reader_read_mark A.f_Reader_read_mark A.d_Reader_read_mark
  b_Reader_read_mark : Binds K A.d_Reader_read_mark ["self"] []
  h_Reader_read_mark : Meth K A.C_Reader "read_mark" A.f_Reader_read_mark
  F_Reader_read_deed : Fun K "read_deed" "Reader.read_deed" s_Reader_read_deed A.f_Reader_read_deed A.d_Reader_read_deed
  b_Reader_read_deed : Binds K A.d_Reader_read_deed ["self"] []
  h_Reader_read_deed : Meth K A.C_Reader "read_deed" A.f_Reader_read_deed
  F_Reader_read_deeds : Fun K "read_deeds" "Reader.read_deeds" s_Reader_read_deeds A.f_Reader_read_deeds A.d_Reader_read_deeds
  b_Reader_read_deeds : Binds K A.d_Reader_read_deeds ["self"] []
  h_Reader_read_deeds : Meth K A.C_Reader "read_deeds" A.f_Reader_read_deeds
  F_Reader_read_triple : Fun K "read_triple" "Reader.read_triple" s_Reader_read_triple A.f_Reader_read_triple A.d_Reader_read_triple
  b_Reader_read_triple : Binds K A.d_Reader_read_triple ["self"] []
  h_Reader_read_triple : Meth K A.C_Reader "read_triple" A.f_Reader_read_triple
  F_Reader_read_triples : Fun K "read_triples" "Reader.read_triples" s_Reader_read_triples A.f_Reader_read_triples A.d_Reader_read_triples
  b_Reader_read_triples : Binds K A.d_Reader_read_triples ["self"] []
  h_Reader_read_triples : Meth K A.C_Reader "read_triples" A.f_Reader_read_triples
  F_Reader_read_packet : Fun K "read_packet" "Reader.read_packet" s_Reader_read_packet A.f_Reader_read_packet A.d_Reader_read_packet
  b_Reader_read_packet : Binds K A.d_Reader_read_packet ["self"] []
  h_Reader_read_packet : Meth K A.C_Reader "read_packet" A.f_Reader_read_packet
  F_write_number : Fun K "write_number" "write_number" s_write_number A.f_write_number A.d_write_number
  b_write_number : Binds K A.d_write_number ["number"] []
  m_write_number : mg "write_number" = some (.ref A.f_write_number)
  k_write_number : PySem.W.keepIn K (.ref A.f_write_number) = true
  F_checksum : Fun K "checksum" "checksum" s_checksum A.f_checksum A.d_checksum
  b_checksum : Binds K A.d_checksum ["data"] []
  m_checksum : mg "checksum" = some (.ref A.f_checksum)
  k_checksum : PySem.W.keepIn K (.ref A.f_checksum) = true
  F_write_record : Fun K "write_record" "write_record" s_write_record A.f_write_record A.d_write_record
  b_write_record : Binds K A.d_write_record ["data"] []
  m_write_record : mg "write_record" = some (.ref A.f_write_record)
  k_write_record : PySem.W.keepIn K (.ref A.f_write_record) = true
  F__read_size : Fun K "_read_size" "_read_size" s__read_size A.f__read_size A.d__read_size
  b__read_size : Binds K A.d__read_size ["data", "start"] []
  m__read_size : mg "_read_size" = some (.ref A.f__read_size)
  k__read_size : PySem.W.keepIn K (.ref A.f__read_size) = true
  F_read_records : Fun K "read_records" "read_records" s_read_records A.f_read_records A.d_read_records
  b_read_records : Binds K A.d_read_records ["data"] []
  m_read_records : mg "read_records" = some (.ref A.f_read_records)
  k_read_records : PySem.W.keepIn K (.ref A.f_read_records) = true
  F__law_mix : Fun K "_law_mix" "_law_mix" s__law_mix A.f__law_mix A.d__law_mix
  b__law_mix : Binds K A.d__law_mix ["cell", "k"] []
  m__law_mix : mg "_law_mix" = some (.ref A.f__law_mix)
  k__law_mix : PySem.W.keepIn K (.ref A.f__law_mix) = true
  F__law_draws : Fun K "_law_draws" "_law_draws" s__law_draws A.f__law_draws A.d__law_draws
  b__law_draws : Binds K A.d__law_draws ["script"] []
  m__law_draws : mg "_law_draws" = some (.ref A.f__law_draws)
  k__law_draws : PySem.W.keepIn K (.ref A.f__law_draws) = true
  F__law_at : Fun K "_law_at" "_law_at" s__law_at A.f__law_at A.d__law_at
  b__law_at : Binds K A.d__law_at ["draws", "index"] []
  m__law_at : mg "_law_at" = some (.ref A.f__law_at)
  k__law_at : PySem.W.keepIn K (.ref A.f__law_at) = true
  F__law_is_integer : Fun K "_law_is_integer" "_law_is_integer" s__law_is_integer A.f__law_is_integer A.d__law_is_integer
  b__law_is_integer : Binds K A.d__law_is_integer ["actual"] []
  m__law_is_integer : mg "_law_is_integer" = some (.ref A.f__law_is_integer)
  k__law_is_integer : PySem.W.keepIn K (.ref A.f__law_is_integer) = true
  F__law_same : Fun K "_law_same" "_law_same" s__law_same A.f__law_same A.d__law_same
  b__law_same : Binds K A.d__law_same ["actual", "expected"] []
  m__law_same : mg "_law_same" = some (.ref A.f__law_same)
  k__law_same : PySem.W.keepIn K (.ref A.f__law_same) = true
  F__law_next : Fun K "_law_next" "_law_next" s__law_next A.f__law_next A.d__law_next
  b__law_next : Binds K A.d__law_next ["state", "limit"] []
  m__law_next : mg "_law_next" = some (.ref A.f__law_next)
  k__law_next : PySem.W.keepIn K (.ref A.f__law_next) = true
  F__law_number : Fun K "_law_number" "_law_number" s__law_number A.f__law_number A.d__law_number
  b__law_number : Binds K A.d__law_number ["number"] []
  m__law_number : mg "_law_number" = some (.ref A.f__law_number)
  k__law_number : PySem.W.keepIn K (.ref A.f__law_number) = true
  F__law_checksum : Fun K "_law_checksum" "_law_checksum" s__law_checksum A.f__law_checksum A.d__law_checksum
  b__law_checksum : Binds K A.d__law_checksum ["data"] []
  m__law_checksum : mg "_law_checksum" = some (.ref A.f__law_checksum)
  k__law_checksum : PySem.W.keepIn K (.ref A.f__law_checksum) = true
  F__law_record : Fun K "_law_record" "_law_record" s__law_record A.f__law_record A.d__law_record
  b__law_record : Binds K A.d__law_record ["data"] []
  m__law_record : mg "_law_record" = some (.ref A.f__law_record)
  k__law_record : PySem.W.keepIn K (.ref A.f__law_record) = true
  F__law_bytes : Fun K "_law_bytes" "_law_bytes" s__law_bytes A.f__law_bytes A.d__law_bytes
  b__law_bytes : Binds K A.d__law_bytes ["state"] []
  m__law_bytes : mg "_law_bytes" = some (.ref A.f__law_bytes)
  k__law_bytes : PySem.W.keepIn K (.ref A.f__law_bytes) = true
  F__law_behind : Fun K "_law_behind" "_law_behind" s__law_behind A.f__law_behind A.d__law_behind
  b__law_behind : Binds K A.d__law_behind ["state"] []
  m__law_behind : mg "_law_behind" = some (.ref A.f__law_behind)
  k__law_behind : PySem.W.keepIn K (.ref A.f__law_behind) = true
  F_law : Fun K "law" "law" s_law A.f_law A.d_law
  b_law : Binds K A.d_law ["script"] []
  m_law : mg "law" = some (.ref A.f_law)
  k_law : PySem.W.keepIn K (.ref A.f_law) = true
  m_Reader : mg "Reader" = some (.ref A.C_Reader)
  c_Reader : Cls K A.C_Reader
  M_Reader : Mk K A.C_Reader A.f_Reader___init__
  x_Reader_data : NoAttr K A.C_Reader "data"
  x_Reader_at : NoAttr K A.C_Reader "at"
  m_PlanwholeError : mg "PlanwholeError" = some (.ref A.C_PlanwholeError)
  xx_PlanwholeError : PySem.W.excIn K A.C_PlanwholeError [.type "ValueError", .type "Exception", .type "BaseException", .type "object"] "ValueError.__new__" = true
  kk_PlanwholeError : PySem.W.keepIn K (.ref A.C_PlanwholeError) = true
  bb_PlanwholeError : PySem.W.subIn K (.ref A.C_PlanwholeError) (.type "BaseException") = some true
  tt_PlanwholeError : PySem.W.typeIn K (.ref A.C_PlanwholeError) = some (.type "type")
  ii_PlanwholeError : PySem.W.isClsIn K A.C_PlanwholeError = true
  sub_PlanwholeError_PlanwholeError : PySem.W.subIn K (.ref A.C_PlanwholeError) (.ref A.C_PlanwholeError) = some true
  m_DamagedPacket : mg "DamagedPacket" = some (.ref A.C_DamagedPacket)
  xx_DamagedPacket : PySem.W.excIn K A.C_DamagedPacket [.type "ValueError", .type "Exception", .type "BaseException", .type "object"] "ValueError.__new__" = true
  kk_DamagedPacket : PySem.W.keepIn K (.ref A.C_DamagedPacket) = true
  bb_DamagedPacket : PySem.W.subIn K (.ref A.C_DamagedPacket) (.type "BaseException") = some true
  tt_DamagedPacket : PySem.W.typeIn K (.ref A.C_DamagedPacket) = some (.type "type")
  ii_DamagedPacket : PySem.W.isClsIn K A.C_DamagedPacket = true
  sub_DamagedPacket_DamagedPacket : PySem.W.subIn K (.ref A.C_DamagedPacket) (.ref A.C_DamagedPacket) = some true
  m_NUMBER_BYTES : mg "NUMBER_BYTES" = some A.v_NUMBER_BYTES
  r_NUMBER_BYTES : RelV (V.int 60) A.v_NUMBER_BYTES
  m_CHECKSUM_LIMIT : mg "CHECKSUM_LIMIT" = some A.v_CHECKSUM_LIMIT
  r_CHECKSUM_LIMIT : RelV (V.int 4294967296) A.v_CHECKSUM_LIMIT
  n_bool : mg "bool" = none
  n_int : mg "int" = none
  n_isinstance : mg "isinstance" = none
  n_len : mg "len" = none
  n_list : mg "list" = none
  n_min : mg "min" = none
  n_range : mg "range" = none
  n_str : mg "str" = none
  n_tuple : mg "tuple" = none
end My

end
section
set_option maxHeartbeats 4000000
local macro_rules | `(tactic| walk_at "k") => `(tactic| first
  | assumption
  | exact W.Keep.trans (by assumption) (by assumption)
  | exact And.intro (by grind [W.Keep, W.Kp]) (by grind [W.Keep, W.Kt])
  | grind [W.Keep, W.Kp])
local macro_rules | `(tactic| walk_at "f") => `(tactic| first
  | assumption
  | exact L2.SqL.of (by assumption)
  | exact L2.SqT.of (by assumption)
  | exact L2.SqL.of L2.upd_same
  | exact L2.SqT.of L2.upd_same
  | exact L2.upd_same
  | exact W.carryL (by assumption) (by assumption)
  | exact W.carryL (by assumption) (by walk_at "k")
  | exact W.carryT (by assumption) (by walk_at "k")
  | exact W.carry (by assumption) (by grind [W.Keep, W.Kp])
  | exact L2.SqL.of (W.carry (by assumption) (by grind [W.Keep, W.Kp]))
  | exact L2.SqT.of (W.carry (by assumption) (by grind [W.Keep, W.Kp])))
local macro_rules | `(tactic| walk_at "a") => `(tactic| first
  | assumption
  | rfl)
local macro_rules | `(tactic| walk_at "n") => `(tactic| first
  | assumption
  | exact Nat.zero_le _
  | decide
  | (simp only [List.length_cons, List.length_nil]; decide)
  | omega
  | (simp only [PySem.sizeLine_eq]; omega)
  | (simp only [List.length_map, List.length_append, List.length_cons, List.length_nil, PySem.sizeLine_eq]; omega)
  | (simp only [List.length_map, List.length_append, List.length_cons, List.length_nil, List.length_take, List.length_drop, PySem.sizeLine_eq]; omega)
  | (simp only [List.length_map, List.length_append, List.length_cons, List.length_nil, PySem.sizeLine_eq] at *; omega))
local macro_rules | `(tactic| walk_at "c") => `(tactic| first
  | assumption
  | decide
  | exact And.intro (by decide) (by decide)
  | exact Or.inr (And.intro (by decide) (by decide))
  | exact Or.inl (And.intro (by decide) (by decide))
  | exact And.intro (by decide) (And.intro (by decide) (by decide))
  | exact (show (0 : Int) < _ by decide)
  | exact And.intro (by omega) (by omega)
  | exact Or.inl (And.intro (by omega) (by omega))
  | exact Or.inr (And.intro (by omega) (by omega))
  | exact (show (0 : Int) < _ by omega))
local macro_rules | `(tactic| walk_at "v") => `(tactic| with_reducible first
  | refine W.v0 ?_ | refine W.v1 ?_ | refine W.v2 ?_ | refine W.v3 ?_ | refine W.v4 ?_ | refine W.v5 ?_ | refine W.v6 ?_ | refine W.v7 ?_ | refine W.v8 ?_
  | refine W.v9 ?_ | refine W.v10 ?_ | refine W.v11 ?_ | refine W.v12 ?_ | refine W.v13 ?_ | refine W.v14 ?_ | refine W.v15 ?_ | refine W.v16 ?_ | refine W.v17 ?_
  | refine W.g0 ?_ | refine W.g1 ?_ | refine W.g2 ?_ | refine W.g3 ?_ | refine W.g4 ?_ | refine W.g5 ?_ | refine W.g6 ?_ | refine W.g7 ?_ | refine W.g8 ?_
  | refine W.g9 ?_ | refine W.g10 ?_ | refine W.g11 ?_ | refine W.g12 ?_ | refine W.g13 ?_ | refine W.g14 ?_ | refine W.g15 ?_)
local macro_rules | `(tactic| walk_at "e") => `(tactic| with_reducible first
  | refine W.e_c ?_ | refine W.e_op ?_ | refine W.s_seq ?_ | refine W.s_asg ?_ | refine W.e_CB ?_ | refine W.a_cons ?_ | refine W.a_nil ?_ | refine W.e_call ?_
  | refine W.t_test ?_ | refine W.w_B ?_ | refine W.s_if ?_ | refine W.s_ret ?_ | refine W.s_drop ?_ | refine W.e_un ?_ | refine W.e_fld ?_ | refine W.s_fld ?_
  | refine W.e_meth ?_ | refine W.e_if ?_ | refine W.e_lst ?_ | refine W.e_tup ?_ | refine W.e_sl ?_ | refine W.o_none ?_ | refine W.o_some ?_ | refine W.w_part ?_
  | refine W.e_bm ?_ | refine W.e_bm0 ?_ | refine W.t_B ?_ | refine W.t_and ?_ | refine W.t_or ?_ | refine W.t_not ?_ | refine W.e_andV ?_ | refine W.e_orV ?_ | refine W.e_notV ?_ | refine W.w_BV ?_ | refine W.e_chain ?_
  | refine W.s_aug ?_ | refine W.s_augS ?_ | refine W.s_next ?_ | refine W.s_brk ?_ | refine W.s_cont ?_ | refine W.s_retN ?_ | refine W.s_fa ?_ | refine W.e_make ?_ | refine W.w_make ?_
  | refine W.w_I0 ?_ | refine W.w_U ?_ | refine W.w_aug ?_ | refine W.w_eqI ?_ | refine W.w_neI ?_ | refine W.w_eqS ?_ | refine W.w_neS ?_ | refine W.w_eqB ?_ | refine W.w_neB ?_
  | refine W.w_int ?_ | refine W.w_intB ?_ | refine W.w_min ?_ | refine W.w_max ?_ | refine W.w_isN ?_ | refine W.w_isI ?_ | refine W.w_isS ?_ | refine W.w_isB ?_ | refine W.w_isR ?_
  | refine W.w_notN ?_ | refine W.w_notI ?_ | refine W.w_notR ?_ | refine W.w_notS ?_ | refine W.w_eqNI ?_ | refine W.w_neNI ?_ | refine W.w_eqN ?_ | refine W.w_neN ?_
  | refine W.s_forL ?_ | refine W.s_forT ?_ | refine W.s_forS ?_ | refine W.s_forR1 ?_ | refine W.s_forR2 ?_ | refine W.s_forR3 ?_ | refine W.s_forZ ?_ | refine W.s_forE ?_
  | refine W.e_lcL ?_ | refine W.e_lcR1 ?_ | refine W.e_lcR2 ?_ | refine W.e_lcZ ?_ | refine W.e_lcS ?_ | refine W.t_yes ?_ | refine W.w_gcons ?_ | refine W.w_gnil ?_ | refine W.s_par ?_ | refine W.w_par ?_ | refine W.g_sub ?_ | refine W.e_m1 ?_ | refine W.w_strR ?_ | refine W.w_rAdd ?_ | refine W.w_rSub ?_ | refine W.s_raise ?_ | refine W.s_try ?_ | refine W.e_methS ?_)
local macro_rules | `(tactic| walk_at "w") => `(tactic| first
  | ((with_reducible refine' W.w_I ?wh ?wq); (case wh => walk_at "c"))
  | ((with_reducible refine' W.w_ixL (n := 0) ?wh ?we ?wq); (case wh => walk_at "f"); (case we => walk_at "a"))
  | ((with_reducible refine' W.w_ixT (n := 0) ?wh ?we ?wq); (case wh => walk_at "f"); (case we => walk_at "a"))
  | ((with_reducible refine' W.w_lenL ?wh ?wq); (case wh => walk_at "f"))
  | ((with_reducible refine' W.w_lenT ?wh ?wq); (case wh => walk_at "f"))
  | ((with_reducible refine' W.w_lenS ?wh ?wq); (case wh => walk_at "n"))
  | ((with_reducible refine' W.w_app ?wh ?we ?wq); (case wh => walk_at "f"); (case we => walk_at "n"))
  | ((with_reducible refine' W.w_meth ?wh ?we ?wq); (case wh => walk_at "f"); (case we => first | assumption | rfl))
  | ((with_reducible refine' W.w_ixLTl ?wh ?we ?wq); (case wh => walk_at "f"); (case we => walk_at "a"))
  | ((with_reducible refine' W.w_ixLTt ?wh ?we ?wq); (case wh => walk_at "f"); (case we => walk_at "a"))
  | ((with_reducible refine' W.w_addS ?wh ?wq); (case wh => walk_at "n"))
  | ((with_reducible refine' W.w_set ?wh ?we ?wq); (case wh => walk_at "f"); (case we => walk_at "a"))
  | ((with_reducible refine' W.w_tup ?wh ?we ?wq); (case wh => walk_at "f"); (case we => first | assumption | rfl))
  | ((with_reducible refine' W.w_slS ?wh ?wq); (case wh => walk_at "n"))
  | ((with_reducible refine' W.w_rApp ?wh ?we ?wq); (case wh => walk_at "f"); (case we => walk_at "n"))
  | ((with_reducible refine' W.w_newL ?wh ?wq); (case wh => walk_at "n"))
  | ((with_reducible refine' W.w_newT ?wh ?wq); (case wh => walk_at "n"))
  | ((with_reducible refine' W.w_listL ?wh ?wq); (case wh => walk_at "f"))
  | ((with_reducible refine' W.w_tupL ?wh ?wq); (case wh => walk_at "f"))
  | ((with_reducible refine' W.w_slL ?wh ?wq); (case wh => walk_at "f"))
  | ((with_reducible refine' W.w_cat ?wh ?wf ?we ?wq); (case wh => walk_at "f"); (case wf => walk_at "f"); (case we => walk_at "n"))
  | ((with_reducible refine' W.w_ext ?wh ?wf ?we ?wq); (case wh => walk_at "f"); (case wf => walk_at "f"); (case we => walk_at "n"))
  | ((with_reducible refine' W.w_recv ?wh ?wq); (case wh => walk_at "f"))
  | ((with_reducible refine' W.w_isi1 ?wh ?we ?wq); (case wh => assumption); (case we => decide +kernel))
  | ((with_reducible refine' W.w_isi0 ?wh ?we ?wq); (case wh => assumption); (case we => decide +kernel))
  | ((with_reducible refine' W.w_isiT10 ?wh ?wf ?we ?wg ?wq); (case wh => assumption); (case wf => walk_at "f"); (case we => decide +kernel); (case wg => decide +kernel))
  | ((with_reducible refine' W.w_isiT01 ?wh ?wf ?we ?wg ?wq); (case wh => assumption); (case wf => walk_at "f"); (case we => decide +kernel); (case wg => decide +kernel))
  | ((with_reducible refine' W.w_isiT00 ?wh ?wf ?we ?wg ?wq); (case wh => assumption); (case wf => walk_at "f"); (case we => decide +kernel); (case wg => decide +kernel))
  | ((with_reducible refine' W.w_ins ?wh ?we ?wf ?wq); (case wh => walk_at "f"); (case we => walk_at "n"); (case wf => walk_at "c"))
  | ((with_reducible refine' W.w_unl ?wh ?we ?wq); (case wh => walk_at "f"); (case we => first | assumption | rfl))
  | ((with_reducible refine' W.ite_T ?_))
  | ((with_reducible refine' W.ite_F ?_))
  | ((with_reducible refine' W.ite_nT ?_))
  | ((with_reducible refine' W.ite_nF ?_))
  | ((with_reducible refine' W.ite_self ?_))
  | ((with_reducible refine' W.ite_nself ?_))
  | ((with_reducible refine' W.ite_tf ?_))
  | ((with_reducible refine' W.ite_ft ?_))
  | ((with_reducible refine' W.ite_ntf ?_))
  | ((with_reducible refine' W.ite_nft ?_))
  | ((with_reducible refine' And.intro ?wl ?wq); (case wl => rfl)))
local macro_rules | `(tactic| walk_at "i") => `(tactic| try (dsimp only [L2.cxOf, L2.wipe, List.map, List.set]))
local macro_rules | `(tactic| walk_at "s") => `(tactic| first | walk_at "v" | walk_at "e" | walk_at "w")
local macro_rules | `(tactic| walk_at "r") => `(tactic| repeat walk_at "s")

namespace My
open PySem L2 W
variable {P : Program} {w : World} {K : PySem.W.Frag} {mg : Str → Option Value} {base : Heap} {A : Adr}
/-! draws: only their range matters -/
def sp_mix : Sp := fun vs H Q _ => ∃ c k : Int, vs = [.int c, .int k] ∧ ∀ v, Q (.int v) H
theorem ok__law_mix (e : Env K mg A) : FnOk P w K mg base CX0 1 A.f__law_mix A.d__law_mix ["cell", "k"] sp_mix := by
  refine e.F__law_mix.ok sc__law_mix (fun vs H Q E h => ?_) (fun cdv AA outer s H vs Q E hr h => ?_)
  · obtain ⟨c, k, rfl, _⟩ := h
    rfl
  · obtain ⟨c, k, rfl, q⟩ := h
    refine ⟨_, (pss_cons (ps_set (i := 2) sc__law_mix.nd rfl (Or.inl rfl) (pe_op op_mod (pe_callTy call_int (by rfl) e.n_int (by decide +kernel) (pa_cons (pe_op op_add (pe_op op_add (pe_op op_mul (pe_callTy call_int (by rfl) e.n_int (by decide +kernel) (pa_cons (pv 0) pa_nil)) pe_int) (pe_op op_mul (pv 1) pe_int)) pe_int) pa_nil)) pe_int))
    (pss_cons (ps_set (i := 2) sc__law_mix.nd rfl (Or.inl rfl) (pe_op op_mod (pe_callTy call_int (by rfl) e.n_int (by decide +kernel) (pa_cons (pe_op op_add (pe_op op_add (pe_op op_mul (pv 2) (pv 2)) (pe_op op_mul (pv 1) pe_int)) pe_int) pa_nil)) pe_int))
    (pss_one (ps_ret (pe_op op_mod (pe_op op_fdiv (pv 2) pe_int) pe_int))))), ?_⟩
    refine enter (st__law_mix _ _) ?_
    walk_at "i"
    walk_at "r"
    exact q _
/-- the draws of a script: some list of ints -/
def sp_draws (K : PySem.W.Frag) : Sp := fun vs H Q _ => ∃ (a : Addr) (ns : List Int), vs = [.ref a] ∧ SqL K H a (ns.map V.int) ∧ ns.length ≤ 63 ∧
  ∀ p H' (ds : List Int), H p = none → Keep [] H H' → H' p = some (.lst (ds.map V.int)) → Q (.ref p) H'
theorem ok__law_draws (e : Env K mg A) : FnOk P w K mg base CX0 2 A.f__law_draws A.d__law_draws ["script"] (sp_draws K) := by
  have G__law_mix := ok__law_mix (P := P) (w := w) (base := base) e
  refine e.F__law_draws.ok sc__law_draws (fun vs H Q E h => ?_) (fun cdv AA outer s H vs Q E hr h => ?_)
  · obtain ⟨a, ns, rfl, _⟩ := h
    rfl
  · obtain ⟨a, ns, rfl, hS, hlen, q⟩ := h
    refine ⟨_, (pss_cons (ps_set (i := 1) sc__law_draws.nd rfl (Or.inl rfl) (pe_lst pa_nil))
    (pss_cons (ps_for PassesOwn.never rfl (pi_range1 rfl e.n_range (pa_cons (pe_callB (call_min rfl) (by rfl) e.n_min (by decide +kernel) (pa_cons pe_int (pa_cons (pe_callB (call_lenLK (K := K)) (by rfl) e.n_len (by decide +kernel) (pa_cons (pv 0) pa_nil)) pa_nil))) pa_nil)) (pg_name (i := 2) sc__law_draws.nd rfl (Or.inl rfl)) (pss_cons (ps_set (i := 3) sc__law_draws.nd rfl (Or.inl rfl) (pe_callTy call_int (by rfl) e.n_int (by decide +kernel) (pa_cons (pe_ix (ix_listK (K := K)) (pv 0) (pv 2) (fun _ _ => rfl)) pa_nil)))
    (pss_one (ps_if (pt_cmpR op_lt (pv 3) (pe_op op_pow pe_int pe_int) (nomark _)) (pss_one (ps_expr (pe_bmK (K := K) PySem.F.plainAttrs_list PySem.F.slot_list_append PySem.F.type_list_append mt_append (pv 1) (pa_cons (pe_call G__law_mix (hr.mono (by omega)) (by rfl) e.m__law_mix e.k__law_mix e.b__law_mix .nil pass0 (pa_cons (pv 3) (pa_cons (pv 2) pa_nil))) pa_nil)))) (pss_one (ps_for PassesOwn.never rfl (pi_range1 rfl e.n_range (pa_cons pe_int pa_nil)) (pg_name (i := 4) sc__law_draws.nd rfl (Or.inl rfl)) (pss_one (ps_if (pt_cmpR op_gt (pv 3) pe_int (nomark _)) (pss_cons (ps_expr (pe_bmK (K := K) PySem.F.plainAttrs_list PySem.F.slot_list_append PySem.F.type_list_append mt_append (pv 1) (pa_cons (pe_op op_mod (pe_callTy call_int (by rfl) e.n_int (by decide +kernel) (pa_cons (pv 3) pa_nil)) pe_int) pa_nil)))
    (pss_one (ps_set (i := 3) sc__law_draws.nd rfl (Or.inl rfl) (pe_op op_fdiv (pv 3) pe_int)))) pss_nil))))))))
    (pss_one (ps_ret (pv 1))))), ?_⟩
    refine enter (st__law_draws _) ?_
    walk_at "i"
    walk_at "r"
    intro p H1 hp k1 h1
    walk_at "r"
    rw [List.length_map]
    have hn : (if ((ns.length : Nat) : Int) < 63 then ((ns.length : Nat) : Int) else 63) = ns.length := by
      split <;> omega
    rw [hn]
    refine forR1 (by omega) (by omega) (fun i σ H' => ∃ (v2 v3 v4 : Option V) (ds : List Int), σ = [some (.ref a), some (.ref p), v2, v3, v4] ∧ Keep [] H H' ∧ H' p = some (.lst (ds.map V.int)) ∧ ds.length ≤ 60 * i)
      ⟨none, none, none, [], rfl, k1, h1, Nat.zero_le _⟩ ?_ ?_
    · rintro i σ H2 hi ⟨v2, v3, v4, ds, rfl, k2, h2, hl⟩
      have hS2 : SqL K H2 a (ns.map V.int) := k2.same.seq hS
      have hget : atI (ns.map V.int) (i : Int) = some (.int (ns.getD i 0)) := atI_nat (by
        rw [List.getElem?_map, List.getD_eq_getElem?_getD, List.getElem?_eq_getElem (by omega)]; rfl)
      walk_at "r"
      refine ite_dec (fun _ => ?_) (fun _ => ?_)
      · walk_at "r"
        refine ⟨_, _, rfl, fun v => ?_⟩
        walk_at "r"
        intro H3 k3 h3
        walk_at "r"
        exact ⟨_, _, _, ds ++ [v], rfl, by walk_at "k", by rw [h3, List.map_append]; rfl, by rw [List.length_append, List.length_singleton]; omega⟩
      · walk_at "r"
        refine forR1 (by omega) (by omega) (fun j σ H' => ∃ (v2 v4 : Option V) (c : Int) (ds : List Int), σ = [some (.ref a), some (.ref p), v2, some (.int c), v4] ∧ Keep [] H H' ∧ H' p = some (.lst (ds.map V.int)) ∧ ds.length ≤ 60 * i + j)
          ⟨_, _, _, ds, rfl, k2, h2, hl⟩ ?_ ?_
        · rintro j σ H3 hj ⟨w2, w4, c, ds3, rfl, k3, h3, hl3⟩
          walk_at "r"
          refine ite_dec (fun _ => ?_) (fun _ => ?_)
          · walk_at "r"
            intro H4 k4 h4
            walk_at "r"
            exact ⟨_, _, _, ds3 ++ [c % 9973], rfl, by walk_at "k", by rw [h4, List.map_append]; rfl, by rw [List.length_append, List.length_singleton]; omega⟩
          · walk_at "r"
            exact ⟨_, _, _, ds3, rfl, k3, h3, by omega⟩
        · rintro σ H3 ⟨w2, w4, c, ds3, rfl, k3, h3, hl3⟩
          exact ⟨_, _, _, ds3, rfl, k3, h3, by simp at hl3; omega⟩
    · rintro σ H2 ⟨v2, v3, v4, ds, rfl, k2, h2, hl⟩
      walk_at "r"
      exact q p H2 ds hp k2 h2
def sp_at (K : PySem.W.Frag) : Sp := fun vs H Q _ => ∃ (d : Addr) (ds : List Int) (i : Int), vs = [.ref d, .int i] ∧ SqL K H d (ds.map V.int) ∧ 0 ≤ i ∧ ∀ v, Q (.int v) H
theorem at_int {ds : List Int} {i : Int} (h : 0 ≤ i) (l : i < ds.length) : ∃ v, atI (ds.map V.int) i = some (.int v) := by
  obtain ⟨n, rfl⟩ := Int.eq_ofNat_of_zero_le h
  refine ⟨ds.getD n 0, atI_nat ?_⟩
  rw [List.getElem?_map, List.getD_eq_getElem?_getD, List.getElem?_eq_getElem (by omega)]; rfl
theorem ok__law_at (e : Env K mg A) : FnOk P w K mg base CX0 2 A.f__law_at A.d__law_at ["draws", "index"] (sp_at K) := by
  have G__law_mix := ok__law_mix (P := P) (w := w) (base := base) e
  refine e.F__law_at.ok sc__law_at (fun vs H Q E h => ?_) (fun cdv AA outer s H vs Q E hr h => ?_)
  · obtain ⟨d, ds, i, rfl, _⟩ := h
    rfl
  · obtain ⟨d, ds, i, rfl, hS, hi, q⟩ := h
    refine ⟨_, (pss_cons (ps_if (pt_cmpR op_lt (pv 1) (pe_callB (call_lenLK (K := K)) (by rfl) e.n_len (by decide +kernel) (pa_cons (pv 0) pa_nil)) (nomark _)) (pss_one (ps_ret (pe_ix (ix_listK (K := K)) (pv 0) (pv 1) (fun _ _ => rfl)))) pss_nil)
    (pss_cons (ps_if (pt_cmpR op_eq (pe_callB (call_lenLK (K := K)) (by rfl) e.n_len (by decide +kernel) (pa_cons (pv 0) pa_nil)) pe_int (nomark _)) (pss_one (ps_ret (pe_call G__law_mix (hr.mono (by omega)) (by rfl) e.m__law_mix e.k__law_mix e.b__law_mix .nil pass0 (pa_cons (pv 1) (pa_cons pe_int pa_nil))))) pss_nil)
    (pss_one (ps_ret (pe_call G__law_mix (hr.mono (by omega)) (by rfl) e.m__law_mix e.k__law_mix e.b__law_mix .nil pass0 (pa_cons (pe_op op_add (pe_ix (ix_listK (K := K)) (pv 0) (pe_op op_mod (pe_callTy call_int (by rfl) e.n_int (by decide +kernel) (pa_cons (pv 1) pa_nil)) (pe_callB (call_lenLK (K := K)) (by rfl) e.n_len (by decide +kernel) (pa_cons (pv 0) pa_nil))) (fun _ _ => rfl)) (pe_op op_mul (pv 1) pe_int)) (pa_cons (pv 1) pa_nil))))))), ?_⟩
    refine enter (st__law_at _ _) ?_
    walk_at "i"
    walk_at "r"
    rw [List.length_map]
    refine ite_dec (fun hl => ?_) (fun hl => ?_)
    · obtain ⟨v, hv⟩ := at_int hi hl
      walk_at "r"
      exact q v
    · walk_at "r"
      rw [List.length_map]
      refine ite_dec (fun h0 => ?_) (fun h0 => ?_)
      · walk_at "r"
        exact ⟨_, _, rfl, q⟩
      · walk_at "r"
        rw [List.length_map]
        obtain ⟨v, hv⟩ := at_int (ds := ds) (i := i % (ds.length : Int)) (Int.emod_nonneg _ h0) (Int.emod_lt_of_pos _ (by omega))
        refine w_I (by omega) ?_
        walk_at "r"
        exact ⟨_, _, rfl, q⟩
end My

end
section
set_option maxHeartbeats 4000000
local macro_rules | `(tactic| walk_at "k") => `(tactic| first
  | assumption
  | exact W.Keep.trans (by assumption) (by assumption)
  | exact And.intro (by grind [W.Keep, W.Kp]) (by grind [W.Keep, W.Kt])
  | grind [W.Keep, W.Kp])
local macro_rules | `(tactic| walk_at "f") => `(tactic| first
  | assumption
  | exact L2.SqL.of (by assumption)
  | exact L2.SqT.of (by assumption)
  | exact L2.SqL.of L2.upd_same
  | exact L2.SqT.of L2.upd_same
  | exact L2.upd_same
  | exact W.carryL (by assumption) (by assumption)
  | exact W.carryL (by assumption) (by walk_at "k")
  | exact W.carryT (by assumption) (by walk_at "k")
  | exact W.carry (by assumption) (by grind [W.Keep, W.Kp])
  | exact L2.SqL.of (W.carry (by assumption) (by grind [W.Keep, W.Kp]))
  | exact L2.SqT.of (W.carry (by assumption) (by grind [W.Keep, W.Kp])))
local macro_rules | `(tactic| walk_at "a") => `(tactic| first
  | assumption
  | rfl)
local macro_rules | `(tactic| walk_at "n") => `(tactic| first
  | assumption
  | exact Nat.zero_le _
  | decide
  | (simp only [List.length_cons, List.length_nil]; decide)
  | omega
  | (simp only [PySem.sizeLine_eq]; omega)
  | (simp only [List.length_map, List.length_append, List.length_cons, List.length_nil, PySem.sizeLine_eq]; omega)
  | (simp only [List.length_map, List.length_append, List.length_cons, List.length_nil, List.length_take, List.length_drop, PySem.sizeLine_eq]; omega)
  | (simp only [List.length_map, List.length_append, List.length_cons, List.length_nil, PySem.sizeLine_eq] at *; omega))
local macro_rules | `(tactic| walk_at "c") => `(tactic| first
  | assumption
  | decide
  | exact And.intro (by decide) (by decide)
  | exact Or.inr (And.intro (by decide) (by decide))
  | exact Or.inl (And.intro (by decide) (by decide))
  | exact And.intro (by decide) (And.intro (by decide) (by decide))
  | exact (show (0 : Int) < _ by decide)
  | exact And.intro (by omega) (by omega)
  | exact Or.inl (And.intro (by omega) (by omega))
  | exact Or.inr (And.intro (by omega) (by omega))
  | exact (show (0 : Int) < _ by omega))
local macro_rules | `(tactic| walk_at "v") => `(tactic| with_reducible first
  | refine W.v0 ?_ | refine W.v1 ?_ | refine W.v2 ?_ | refine W.v3 ?_ | refine W.v4 ?_ | refine W.v5 ?_ | refine W.v6 ?_ | refine W.v7 ?_ | refine W.v8 ?_
  | refine W.v9 ?_ | refine W.v10 ?_ | refine W.v11 ?_ | refine W.v12 ?_ | refine W.v13 ?_ | refine W.v14 ?_ | refine W.v15 ?_ | refine W.v16 ?_ | refine W.v17 ?_
  | refine W.g0 ?_ | refine W.g1 ?_ | refine W.g2 ?_ | refine W.g3 ?_ | refine W.g4 ?_ | refine W.g5 ?_ | refine W.g6 ?_ | refine W.g7 ?_ | refine W.g8 ?_
  | refine W.g9 ?_ | refine W.g10 ?_ | refine W.g11 ?_ | refine W.g12 ?_ | refine W.g13 ?_ | refine W.g14 ?_ | refine W.g15 ?_)
local macro_rules | `(tactic| walk_at "e") => `(tactic| with_reducible first
  | refine W.e_c ?_ | refine W.e_op ?_ | refine W.s_seq ?_ | refine W.s_asg ?_ | refine W.e_CB ?_ | refine W.a_cons ?_ | refine W.a_nil ?_ | refine W.e_call ?_
  | refine W.t_test ?_ | refine W.w_B ?_ | refine W.s_if ?_ | refine W.s_ret ?_ | refine W.s_drop ?_ | refine W.e_un ?_ | refine W.e_fld ?_ | refine W.s_fld ?_
  | refine W.e_meth ?_ | refine W.e_if ?_ | refine W.e_lst ?_ | refine W.e_tup ?_ | refine W.e_sl ?_ | refine W.o_none ?_ | refine W.o_some ?_ | refine W.w_part ?_
  | refine W.e_bm ?_ | refine W.e_bm0 ?_ | refine W.t_B ?_ | refine W.t_and ?_ | refine W.t_or ?_ | refine W.t_not ?_ | refine W.e_andV ?_ | refine W.e_orV ?_ | refine W.e_notV ?_ | refine W.w_BV ?_ | refine W.e_chain ?_
  | refine W.s_aug ?_ | refine W.s_augS ?_ | refine W.s_next ?_ | refine W.s_brk ?_ | refine W.s_cont ?_ | refine W.s_retN ?_ | refine W.s_fa ?_ | refine W.e_make ?_ | refine W.w_make ?_
  | refine W.w_I0 ?_ | refine W.w_U ?_ | refine W.w_aug ?_ | refine W.w_eqI ?_ | refine W.w_neI ?_ | refine W.w_eqS ?_ | refine W.w_neS ?_ | refine W.w_eqB ?_ | refine W.w_neB ?_
  | refine W.w_int ?_ | refine W.w_intB ?_ | refine W.w_min ?_ | refine W.w_max ?_ | refine W.w_isN ?_ | refine W.w_isI ?_ | refine W.w_isS ?_ | refine W.w_isB ?_ | refine W.w_isR ?_
  | refine W.w_notN ?_ | refine W.w_notI ?_ | refine W.w_notR ?_ | refine W.w_notS ?_ | refine W.w_eqNI ?_ | refine W.w_neNI ?_ | refine W.w_eqN ?_ | refine W.w_neN ?_
  | refine W.s_forL ?_ | refine W.s_forT ?_ | refine W.s_forS ?_ | refine W.s_forR1 ?_ | refine W.s_forR2 ?_ | refine W.s_forR3 ?_ | refine W.s_forZ ?_ | refine W.s_forE ?_
  | refine W.e_lcL ?_ | refine W.e_lcR1 ?_ | refine W.e_lcR2 ?_ | refine W.e_lcZ ?_ | refine W.e_lcS ?_ | refine W.t_yes ?_ | refine W.w_gcons ?_ | refine W.w_gnil ?_ | refine W.s_par ?_ | refine W.w_par ?_ | refine W.g_sub ?_ | refine W.e_m1 ?_ | refine W.w_strR ?_ | refine W.w_rAdd ?_ | refine W.w_rSub ?_ | refine W.s_raise ?_ | refine W.s_try ?_ | refine W.e_methS ?_)
local macro_rules | `(tactic| walk_at "w") => `(tactic| first
  | ((with_reducible refine' W.w_I ?wh ?wq); (case wh => walk_at "c"))
  | ((with_reducible refine' W.w_ixL (n := 0) ?wh ?we ?wq); (case wh => walk_at "f"); (case we => walk_at "a"))
  | ((with_reducible refine' W.w_ixT (n := 0) ?wh ?we ?wq); (case wh => walk_at "f"); (case we => walk_at "a"))
  | ((with_reducible refine' W.w_lenL ?wh ?wq); (case wh => walk_at "f"))
  | ((with_reducible refine' W.w_lenT ?wh ?wq); (case wh => walk_at "f"))
  | ((with_reducible refine' W.w_lenS ?wh ?wq); (case wh => walk_at "n"))
  | ((with_reducible refine' W.w_app ?wh ?we ?wq); (case wh => walk_at "f"); (case we => walk_at "n"))
  | ((with_reducible refine' W.w_meth ?wh ?we ?wq); (case wh => walk_at "f"); (case we => first | assumption | rfl))
  | ((with_reducible refine' W.w_ixLTl ?wh ?we ?wq); (case wh => walk_at "f"); (case we => walk_at "a"))
  | ((with_reducible refine' W.w_ixLTt ?wh ?we ?wq); (case wh => walk_at "f"); (case we => walk_at "a"))
  | ((with_reducible refine' W.w_addS ?wh ?wq); (case wh => walk_at "n"))
  | ((with_reducible refine' W.w_set ?wh ?we ?wq); (case wh => walk_at "f"); (case we => walk_at "a"))
  | ((with_reducible refine' W.w_tup ?wh ?we ?wq); (case wh => walk_at "f"); (case we => first | assumption | rfl))
  | ((with_reducible refine' W.w_slS ?wh ?wq); (case wh => walk_at "n"))
  | ((with_reducible refine' W.w_rApp ?wh ?we ?wq); (case wh => walk_at "f"); (case we => walk_at "n"))
  | ((with_reducible refine' W.w_newL ?wh ?wq); (case wh => walk_at "n"))
  | ((with_reducible refine' W.w_newT ?wh ?wq); (case wh => walk_at "n"))
  | ((with_reducible refine' W.w_listL ?wh ?wq); (case wh => walk_at "f"))
  | ((with_reducible refine' W.w_tupL ?wh ?wq); (case wh => walk_at "f"))
  | ((with_reducible refine' W.w_slL ?wh ?wq); (case wh => walk_at "f"))
  | ((with_reducible refine' W.w_cat ?wh ?wf ?we ?wq); (case wh => walk_at "f"); (case wf => walk_at "f"); (case we => walk_at "n"))
  | ((with_reducible refine' W.w_ext ?wh ?wf ?we ?wq); (case wh => walk_at "f"); (case wf => walk_at "f"); (case we => walk_at "n"))
  | ((with_reducible refine' W.w_recv ?wh ?wq); (case wh => walk_at "f"))
  | ((with_reducible refine' W.w_isi1 ?wh ?we ?wq); (case wh => assumption); (case we => decide +kernel))
  | ((with_reducible refine' W.w_isi0 ?wh ?we ?wq); (case wh => assumption); (case we => decide +kernel))
  | ((with_reducible refine' W.w_isiT10 ?wh ?wf ?we ?wg ?wq); (case wh => assumption); (case wf => walk_at "f"); (case we => decide +kernel); (case wg => decide +kernel))
  | ((with_reducible refine' W.w_isiT01 ?wh ?wf ?we ?wg ?wq); (case wh => assumption); (case wf => walk_at "f"); (case we => decide +kernel); (case wg => decide +kernel))
  | ((with_reducible refine' W.w_isiT00 ?wh ?wf ?we ?wg ?wq); (case wh => assumption); (case wf => walk_at "f"); (case we => decide +kernel); (case wg => decide +kernel))
  | ((with_reducible refine' W.w_ins ?wh ?we ?wf ?wq); (case wh => walk_at "f"); (case we => walk_at "n"); (case wf => walk_at "c"))
  | ((with_reducible refine' W.w_unl ?wh ?we ?wq); (case wh => walk_at "f"); (case we => first | assumption | rfl))
  | ((with_reducible refine' W.ite_T ?_))
  | ((with_reducible refine' W.ite_F ?_))
  | ((with_reducible refine' W.ite_nT ?_))
  | ((with_reducible refine' W.ite_nF ?_))
  | ((with_reducible refine' W.ite_self ?_))
  | ((with_reducible refine' W.ite_nself ?_))
  | ((with_reducible refine' W.ite_tf ?_))
  | ((with_reducible refine' W.ite_ft ?_))
  | ((with_reducible refine' W.ite_ntf ?_))
  | ((with_reducible refine' W.ite_nft ?_))
  | ((with_reducible refine' And.intro ?wl ?wq); (case wl => rfl)))
local macro_rules | `(tactic| walk_at "i") => `(tactic| try (dsimp only [L2.cxOf, L2.wipe, List.map, List.set]))
local macro_rules | `(tactic| walk_at "s") => `(tactic| first | walk_at "v" | walk_at "e" | walk_at "w")
local macro_rules | `(tactic| walk_at "r") => `(tactic| repeat walk_at "s")

namespace My
open PySem L2 W
variable {P : Program} {w : World} {K : PySem.W.Frag} {mg : Str → Option Value} {base : Heap} {A : Adr}
/-! equal data are told to be the same -/
def sp_isint : Sp := fun vs H Q _ => ∃ i : Int, vs = [.int i] ∧ Q (.bl true) H
theorem ok__law_is_integer (e : Env K mg A) : FnOk P w K mg base CX0 1 A.f__law_is_integer A.d__law_is_integer ["actual"] sp_isint := by
  refine e.F__law_is_integer.ok sc__law_is_integer (fun vs H Q E h => ?_) (fun cdv AA outer s H vs Q E hr h => ?_)
  · obtain ⟨c, rfl, _⟩ := h
    rfl
  · obtain ⟨c, rfl, q⟩ := h
    refine ⟨_, (pss_one (ps_ret (pe_and (pe_callB (call_isiK (K := K)) (by rfl) e.n_isinstance (by decide +kernel) (pa_cons (pv 0) (pa_cons (pe_bltn (v := .ty "int") (by rfl) e.n_int (by decide +kernel) rfl) pa_nil))) (pe_one (pe_not (pe_callB (call_isiK (K := K)) (by rfl) e.n_isinstance (by decide +kernel) (pa_cons (pv 0) (pa_cons (pe_bltn (v := .ty "bool") (by rfl) e.n_bool (by decide +kernel) rfl) pa_nil)))))))), ?_⟩
    refine enter (st__law_is_integer _) ?_
    walk_at "i"
    have t1 : TyX K H (.int c) (.type "int") := .base (.int c)
    walk_at "r"
    exact q
def sp_same : Nat → Sp
  | 0 => fun _ _ _ _ => False
  | n + 1 => fun vs H Q _ => ∃ (x y : V) (d : PyData), vs = [x, y] ∧ Da H d x ∧ Da H d y ∧ dep d ≤ n ∧ wid d ≤ 16777216 ∧ ∀ H', Keep [] H H' → Q (.bl true) H'
theorem ok__law_same (e : Env K mg A) : ∀ n, FnOk P w K mg base CX0 (n + 1) A.f__law_same A.d__law_same ["actual", "expected"] (sp_same n)
  | 0 => ⟨fun _ _ _ _ h => h.elim, fun _ _ _ _ _ _ _ _ _ _ _ _ _ h => h.elim⟩
  | n + 1 => by
    have G__law_is_integer := ok__law_is_integer (P := P) (w := w) (base := base) e
    have G__law_same := ok__law_same e n
    refine e.F__law_same.ok sc__law_same (fun vs H Q E h => ?_) (fun cdv AA outer s H vs Q E hr h => ?_)
    · obtain ⟨x, y, d, rfl, _⟩ := h
      rfl
    · obtain ⟨x, y, d, rfl, hx, hy, hd, hw, q⟩ := h
      refine ⟨_, (pss_cons (ps_if (pt_val (pe_callB (call_isiTK (K := K)) (by rfl) e.n_isinstance (by decide +kernel) (pa_cons (pv 1) (pa_cons (pe_tup (pa_cons (pe_bltn (v := .ty "list") (by rfl) e.n_list (by decide +kernel) rfl) (pa_cons (pe_bltn (v := .ty "tuple") (by rfl) e.n_tuple (by decide +kernel) rfl) pa_nil))) pa_nil)))) (pss_cons (ps_if (PW.pt (pw_or (pt_cmpR op_ne (pe_callB (call_isiK (K := K)) (by rfl) e.n_isinstance (by decide +kernel) (pa_cons (pv 1) (pa_cons (pe_bltn (v := .ty "list") (by rfl) e.n_list (by decide +kernel) rfl) pa_nil))) (pe_callB (call_isiK (K := K)) (by rfl) e.n_isinstance (by decide +kernel) (pa_cons (pv 0) (pa_cons (pe_bltn (v := .ty "list") (by rfl) e.n_list (by decide +kernel) rfl) pa_nil))) (nomark _)) (pw_or1 (pt_cmpR op_ne (pe_callB (call_isiK (K := K)) (by rfl) e.n_isinstance (by decide +kernel) (pa_cons (pv 1) (pa_cons (pe_bltn (v := .ty "tuple") (by rfl) e.n_tuple (by decide +kernel) rfl) pa_nil))) (pe_callB (call_isiK (K := K)) (by rfl) e.n_isinstance (by decide +kernel) (pa_cons (pv 0) (pa_cons (pe_bltn (v := .ty "tuple") (by rfl) e.n_tuple (by decide +kernel) rfl) pa_nil))) (nomark _))))) (pss_one (ps_ret pe_bl)) pss_nil)
    (pss_cons (ps_if (pt_cmpR op_ne (pe_callB (call_lenLK (K := K)) (by rfl) e.n_len (by decide +kernel) (pa_cons (pv 0) pa_nil)) (pe_callB (call_lenLK (K := K)) (by rfl) e.n_len (by decide +kernel) (pa_cons (pv 1) pa_nil)) (nomark _)) (pss_one (ps_ret pe_bl)) pss_nil)
    (pss_cons (ps_for PassesOwn.never rfl (pi_range1 rfl e.n_range (pa_cons (pe_callB (call_lenLK (K := K)) (by rfl) e.n_len (by decide +kernel) (pa_cons (pv 1) pa_nil)) pa_nil)) (pg_name (i := 2) sc__law_same.nd rfl (Or.inl rfl)) (pss_one (ps_if (pt_not (pt_val (pe_call G__law_same (hr.mono (by omega)) (by rfl) e.m__law_same e.k__law_same e.b__law_same .nil pass0 (pa_cons (pe_ix (ix_ltK (K := K)) (pv 0) (pv 2) (fun _ _ => rfl)) (pa_cons (pe_ix (ix_ltK (K := K)) (pv 1) (pv 2) (fun _ _ => rfl)) pa_nil))))) (pss_one (ps_ret pe_bl)) pss_nil)))
    (pss_one (ps_ret pe_bl))))) pss_nil)
    (pss_cons (ps_if (pt_cmpR op_isNo (pv 1) pe_non (nomark _)) (pss_one (ps_ret (pe_cmpR op_isNo (pv 0) pe_non (nomark _)))) pss_nil)
    (pss_cons (ps_if (pt_val (pe_callB (call_isiK (K := K)) (by rfl) e.n_isinstance (by decide +kernel) (pa_cons (pv 1) (pa_cons (pe_bltn (v := .ty "bool") (by rfl) e.n_bool (by decide +kernel) rfl) pa_nil)))) (pss_one (ps_ret (pe_and (pe_callB (call_isiK (K := K)) (by rfl) e.n_isinstance (by decide +kernel) (pa_cons (pv 0) (pa_cons (pe_bltn (v := .ty "bool") (by rfl) e.n_bool (by decide +kernel) rfl) pa_nil))) (pe_one (pe_cmpR op_eq (pv 0) (pv 1) (nomark _)))))) pss_nil)
    (pss_cons (ps_if (pt_val (pe_callB (call_isiK (K := K)) (by rfl) e.n_isinstance (by decide +kernel) (pa_cons (pv 1) (pa_cons (pe_bltn (v := .ty "int") (by rfl) e.n_int (by decide +kernel) rfl) pa_nil)))) (pss_one (ps_ret (pe_and (pe_call G__law_is_integer (hr.mono (by omega)) (by rfl) e.m__law_is_integer e.k__law_is_integer e.b__law_is_integer .nil pass0 (pa_cons (pv 0) pa_nil)) (pe_one (pe_cmpR op_eq (pv 0) (pv 1) (nomark _)))))) pss_nil)
    (pss_one (ps_ret (pe_and (pe_callB (call_isiK (K := K)) (by rfl) e.n_isinstance (by decide +kernel) (pa_cons (pv 0) (pa_cons (pe_bltn (v := .ty "str") (by rfl) e.n_str (by decide +kernel) rfl) pa_nil))) (pe_one (pe_cmpR op_eq (pv 0) (pv 1) (nomark _)))))))))), ?_⟩
      refine enter (st__law_same _ _) ?_
      walk_at "i"
      walk_at "r"
      intro tp H1 np k1 htp
      have hx1 := hx.mono k1.same
      have hy1 := hy.mono k1.same
      have tx := hx1.ty (K := K)
      have ty := hy1.ty (K := K)
      cases d with
      | none =>
        simp only [Da] at hx1 hy1
        simp only [tyName] at tx ty
        subst hx1 hy1
        walk_at "r"
        exact q _ k1
      | bool b =>
        simp only [Da] at hx1 hy1
        simp only [tyName] at tx ty
        subst hx1 hy1
        walk_at "r"
        simp only [decide_true]
        exact q _ k1
      | int i =>
        simp only [Da] at hx1 hy1
        simp only [tyName] at tx ty
        subst hx1 hy1
        walk_at "r"
        refine ⟨_, rfl, ?_⟩
        walk_at "r"
        simp only [decide_true]
        exact q _ k1
      | str z =>
        simp only [Da] at hx1 hy1
        simp only [tyName] at tx ty
        subst hx1 hy1
        walk_at "r"
        simp only [decide_true]
        exact q _ k1
      | list ds =>
        simp only [Da] at hx1 hy1
        simp only [tyName] at tx ty
        obtain ⟨a, xs, rfl, ha, hxs⟩ := hx1
        obtain ⟨b, ys, rfl, hb, hys⟩ := hy1
        walk_at "r"
        rw [hxs.len, hys.len]
        walk_at "r"
        rw [hys.len]
        have hz : ds.length ≤ 16777216 := by simp only [wid] at hw; omega
        refine forR1 (by omega) (by omega) (fun i σ H' => ∃ v2, σ = [some (.ref a), some (.ref b), v2] ∧ Keep [] H1 H') ⟨_, rfl, Keep.refl⟩ ?_ ?_
        · rintro i σ H2 hi ⟨v2, rfl, k2⟩
          have ha2 : H2 a = some (.lst xs) := k2.same _ _ ha
          have hb2 : H2 b = some (.lst ys) := k2.same _ _ hb
          obtain ⟨x, ex⟩ : ∃ x, xs[i]? = some x := ⟨_, List.getElem?_eq_getElem (by have := hxs.len; omega)⟩
          obtain ⟨y, ey⟩ : ∃ y, ys[i]? = some y := ⟨_, List.getElem?_eq_getElem (by have := hys.len; omega)⟩
          have ax := atI_nat ex
          have ay := atI_nat ey
          obtain ⟨d, ed, dx⟩ := hxs.get ex
          obtain ⟨d', ed', dy⟩ := hys.get ey
          rw [ed] at ed'
          cases ed'
          walk_at "r"
          cases n with
          | zero => simp only [dep] at hd; omega
          | succ n =>
            refine ⟨x, y, d, rfl, dx.mono k2.same, dy.mono k2.same, ?_, ?_, fun H3 k3 => ?_⟩
            · have := depL_get ed
              simp only [dep] at hd
              omega
            · have := widL_get ed
              simp only [wid] at hw
              omega
            walk_at "r"
            exact ⟨_, rfl, k2.trans k3⟩
        · rintro σ H2 ⟨v2, rfl, k2⟩
          walk_at "r"
          exact q _ (k1.trans k2)
      | tuple ds =>
        simp only [Da] at hx1 hy1
        simp only [tyName] at tx ty
        obtain ⟨a, xs, rfl, ha, hxs⟩ := hx1
        obtain ⟨b, ys, rfl, hb, hys⟩ := hy1
        walk_at "r"
        rw [hxs.len, hys.len]
        walk_at "r"
        rw [hys.len]
        have hz : ds.length ≤ 16777216 := by simp only [wid] at hw; omega
        refine forR1 (by omega) (by omega) (fun i σ H' => ∃ v2, σ = [some (.ref a), some (.ref b), v2] ∧ Keep [] H1 H') ⟨_, rfl, Keep.refl⟩ ?_ ?_
        · rintro i σ H2 hi ⟨v2, rfl, k2⟩
          have ha2 : H2 a = some (.tup xs) := k2.same _ _ ha
          have hb2 : H2 b = some (.tup ys) := k2.same _ _ hb
          obtain ⟨x, ex⟩ : ∃ x, xs[i]? = some x := ⟨_, List.getElem?_eq_getElem (by have := hxs.len; omega)⟩
          obtain ⟨y, ey⟩ : ∃ y, ys[i]? = some y := ⟨_, List.getElem?_eq_getElem (by have := hys.len; omega)⟩
          have ax := atI_nat ex
          have ay := atI_nat ey
          obtain ⟨d, ed, dx⟩ := hxs.get ex
          obtain ⟨d', ed', dy⟩ := hys.get ey
          rw [ed] at ed'
          cases ed'
          walk_at "r"
          cases n with
          | zero => simp only [dep] at hd; omega
          | succ n =>
            refine ⟨x, y, d, rfl, dx.mono k2.same, dy.mono k2.same, ?_, ?_, fun H3 k3 => ?_⟩
            · have := depL_get ed
              simp only [dep] at hd
              omega
            · have := widL_get ed
              simp only [wid] at hw
              omega
            walk_at "r"
            exact ⟨_, rfl, k2.trans k3⟩
        · rintro σ H2 ⟨v2, rfl, k2⟩
          walk_at "r"
          exact q _ (k1.trans k2)
      | dict ds => simp [Da] at hx
end My

end
section
set_option maxHeartbeats 4000000
local macro_rules | `(tactic| walk_at "k") => `(tactic| first
  | assumption
  | exact W.Keep.trans (by assumption) (by assumption)
  | exact And.intro (by grind [W.Keep, W.Kp]) (by grind [W.Keep, W.Kt])
  | grind [W.Keep, W.Kp])
local macro_rules | `(tactic| walk_at "f") => `(tactic| first
  | assumption
  | exact L2.SqL.of (by assumption)
  | exact L2.SqT.of (by assumption)
  | exact L2.SqL.of L2.upd_same
  | exact L2.SqT.of L2.upd_same
  | exact L2.upd_same
  | exact W.carryL (by assumption) (by assumption)
  | exact W.carryL (by assumption) (by walk_at "k")
  | exact W.carryT (by assumption) (by walk_at "k")
  | exact W.carry (by assumption) (by grind [W.Keep, W.Kp])
  | exact L2.SqL.of (W.carry (by assumption) (by grind [W.Keep, W.Kp]))
  | exact L2.SqT.of (W.carry (by assumption) (by grind [W.Keep, W.Kp])))
local macro_rules | `(tactic| walk_at "a") => `(tactic| first
  | assumption
  | rfl)
local macro_rules | `(tactic| walk_at "n") => `(tactic| first
  | assumption
  | exact Nat.zero_le _
  | decide
  | (simp only [List.length_cons, List.length_nil]; decide)
  | omega
  | (simp only [PySem.sizeLine_eq]; omega)
  | (simp only [List.length_map, List.length_append, List.length_cons, List.length_nil, PySem.sizeLine_eq]; omega)
  | (simp only [List.length_map, List.length_append, List.length_cons, List.length_nil, List.length_take, List.length_drop, PySem.sizeLine_eq]; omega)
  | (simp only [List.length_map, List.length_append, List.length_cons, List.length_nil, PySem.sizeLine_eq] at *; omega))
local macro_rules | `(tactic| walk_at "c") => `(tactic| first
  | assumption
  | decide
  | exact And.intro (by decide) (by decide)
  | exact Or.inr (And.intro (by decide) (by decide))
  | exact Or.inl (And.intro (by decide) (by decide))
  | exact And.intro (by decide) (And.intro (by decide) (by decide))
  | exact (show (0 : Int) < _ by decide)
  | exact And.intro (by omega) (by omega)
  | exact Or.inl (And.intro (by omega) (by omega))
  | exact Or.inr (And.intro (by omega) (by omega))
  | exact (show (0 : Int) < _ by omega))
local macro_rules | `(tactic| walk_at "v") => `(tactic| with_reducible first
  | refine W.v0 ?_ | refine W.v1 ?_ | refine W.v2 ?_ | refine W.v3 ?_ | refine W.v4 ?_ | refine W.v5 ?_ | refine W.v6 ?_ | refine W.v7 ?_ | refine W.v8 ?_
  | refine W.v9 ?_ | refine W.v10 ?_ | refine W.v11 ?_ | refine W.v12 ?_ | refine W.v13 ?_ | refine W.v14 ?_ | refine W.v15 ?_ | refine W.v16 ?_ | refine W.v17 ?_
  | refine W.g0 ?_ | refine W.g1 ?_ | refine W.g2 ?_ | refine W.g3 ?_ | refine W.g4 ?_ | refine W.g5 ?_ | refine W.g6 ?_ | refine W.g7 ?_ | refine W.g8 ?_
  | refine W.g9 ?_ | refine W.g10 ?_ | refine W.g11 ?_ | refine W.g12 ?_ | refine W.g13 ?_ | refine W.g14 ?_ | refine W.g15 ?_)
local macro_rules | `(tactic| walk_at "e") => `(tactic| with_reducible first
  | refine W.e_c ?_ | refine W.e_op ?_ | refine W.s_seq ?_ | refine W.s_asg ?_ | refine W.e_CB ?_ | refine W.a_cons ?_ | refine W.a_nil ?_ | refine W.e_call ?_
  | refine W.t_test ?_ | refine W.w_B ?_ | refine W.s_if ?_ | refine W.s_ret ?_ | refine W.s_drop ?_ | refine W.e_un ?_ | refine W.e_fld ?_ | refine W.s_fld ?_
  | refine W.e_meth ?_ | refine W.e_if ?_ | refine W.e_lst ?_ | refine W.e_tup ?_ | refine W.e_sl ?_ | refine W.o_none ?_ | refine W.o_some ?_ | refine W.w_part ?_
  | refine W.e_bm ?_ | refine W.e_bm0 ?_ | refine W.t_B ?_ | refine W.t_and ?_ | refine W.t_or ?_ | refine W.t_not ?_ | refine W.e_andV ?_ | refine W.e_orV ?_ | refine W.e_notV ?_ | refine W.w_BV ?_ | refine W.e_chain ?_
  | refine W.s_aug ?_ | refine W.s_augS ?_ | refine W.s_next ?_ | refine W.s_brk ?_ | refine W.s_cont ?_ | refine W.s_retN ?_ | refine W.s_fa ?_ | refine W.e_make ?_ | refine W.w_make ?_
  | refine W.w_I0 ?_ | refine W.w_U ?_ | refine W.w_aug ?_ | refine W.w_eqI ?_ | refine W.w_neI ?_ | refine W.w_eqS ?_ | refine W.w_neS ?_ | refine W.w_eqB ?_ | refine W.w_neB ?_
  | refine W.w_int ?_ | refine W.w_intB ?_ | refine W.w_min ?_ | refine W.w_max ?_ | refine W.w_isN ?_ | refine W.w_isI ?_ | refine W.w_isS ?_ | refine W.w_isB ?_ | refine W.w_isR ?_
  | refine W.w_notN ?_ | refine W.w_notI ?_ | refine W.w_notR ?_ | refine W.w_notS ?_ | refine W.w_eqNI ?_ | refine W.w_neNI ?_ | refine W.w_eqN ?_ | refine W.w_neN ?_
  | refine W.s_forL ?_ | refine W.s_forT ?_ | refine W.s_forS ?_ | refine W.s_forR1 ?_ | refine W.s_forR2 ?_ | refine W.s_forR3 ?_ | refine W.s_forZ ?_ | refine W.s_forE ?_
  | refine W.e_lcL ?_ | refine W.e_lcR1 ?_ | refine W.e_lcR2 ?_ | refine W.e_lcZ ?_ | refine W.e_lcS ?_ | refine W.t_yes ?_ | refine W.w_gcons ?_ | refine W.w_gnil ?_ | refine W.s_par ?_ | refine W.w_par ?_ | refine W.g_sub ?_ | refine W.e_m1 ?_ | refine W.w_strR ?_ | refine W.w_rAdd ?_ | refine W.w_rSub ?_ | refine W.s_raise ?_ | refine W.s_try ?_ | refine W.e_methS ?_)
local macro_rules | `(tactic| walk_at "w") => `(tactic| first
  | ((with_reducible refine' W.w_I ?wh ?wq); (case wh => walk_at "c"))
  | ((with_reducible refine' W.w_ixL (n := 0) ?wh ?we ?wq); (case wh => walk_at "f"); (case we => walk_at "a"))
  | ((with_reducible refine' W.w_ixT (n := 0) ?wh ?we ?wq); (case wh => walk_at "f"); (case we => walk_at "a"))
  | ((with_reducible refine' W.w_lenL ?wh ?wq); (case wh => walk_at "f"))
  | ((with_reducible refine' W.w_lenT ?wh ?wq); (case wh => walk_at "f"))
  | ((with_reducible refine' W.w_lenS ?wh ?wq); (case wh => walk_at "n"))
  | ((with_reducible refine' W.w_app ?wh ?we ?wq); (case wh => walk_at "f"); (case we => walk_at "n"))
  | ((with_reducible refine' W.w_meth ?wh ?we ?wq); (case wh => walk_at "f"); (case we => first | assumption | rfl))
  | ((with_reducible refine' W.w_ixLTl ?wh ?we ?wq); (case wh => walk_at "f"); (case we => walk_at "a"))
  | ((with_reducible refine' W.w_ixLTt ?wh ?we ?wq); (case wh => walk_at "f"); (case we => walk_at "a"))
  | ((with_reducible refine' W.w_addS ?wh ?wq); (case wh => walk_at "n"))
  | ((with_reducible refine' W.w_set ?wh ?we ?wq); (case wh => walk_at "f"); (case we => walk_at "a"))
  | ((with_reducible refine' W.w_tup ?wh ?we ?wq); (case wh => walk_at "f"); (case we => first | assumption | rfl))
  | ((with_reducible refine' W.w_slS ?wh ?wq); (case wh => walk_at "n"))
  | ((with_reducible refine' W.w_rApp ?wh ?we ?wq); (case wh => walk_at "f"); (case we => walk_at "n"))
  | ((with_reducible refine' W.w_newL ?wh ?wq); (case wh => walk_at "n"))
  | ((with_reducible refine' W.w_newT ?wh ?wq); (case wh => walk_at "n"))
  | ((with_reducible refine' W.w_listL ?wh ?wq); (case wh => walk_at "f"))
  | ((with_reducible refine' W.w_tupL ?wh ?wq); (case wh => walk_at "f"))
  | ((with_reducible refine' W.w_slL ?wh ?wq); (case wh => walk_at "f"))
  | ((with_reducible refine' W.w_cat ?wh ?wf ?we ?wq); (case wh => walk_at "f"); (case wf => walk_at "f"); (case we => walk_at "n"))
  | ((with_reducible refine' W.w_ext ?wh ?wf ?we ?wq); (case wh => walk_at "f"); (case wf => walk_at "f"); (case we => walk_at "n"))
  | ((with_reducible refine' W.w_recv ?wh ?wq); (case wh => walk_at "f"))
  | ((with_reducible refine' W.w_isi1 ?wh ?we ?wq); (case wh => assumption); (case we => decide +kernel))
  | ((with_reducible refine' W.w_isi0 ?wh ?we ?wq); (case wh => assumption); (case we => decide +kernel))
  | ((with_reducible refine' W.w_isiT10 ?wh ?wf ?we ?wg ?wq); (case wh => assumption); (case wf => walk_at "f"); (case we => decide +kernel); (case wg => decide +kernel))
  | ((with_reducible refine' W.w_isiT01 ?wh ?wf ?we ?wg ?wq); (case wh => assumption); (case wf => walk_at "f"); (case we => decide +kernel); (case wg => decide +kernel))
  | ((with_reducible refine' W.w_isiT00 ?wh ?wf ?we ?wg ?wq); (case wh => assumption); (case wf => walk_at "f"); (case we => decide +kernel); (case wg => decide +kernel))
  | ((with_reducible refine' W.w_ins ?wh ?we ?wf ?wq); (case wh => walk_at "f"); (case we => walk_at "n"); (case wf => walk_at "c"))
  | ((with_reducible refine' W.w_unl ?wh ?we ?wq); (case wh => walk_at "f"); (case we => first | assumption | rfl))
  | ((with_reducible refine' W.ite_T ?_))
  | ((with_reducible refine' W.ite_F ?_))
  | ((with_reducible refine' W.ite_nT ?_))
  | ((with_reducible refine' W.ite_nF ?_))
  | ((with_reducible refine' W.ite_self ?_))
  | ((with_reducible refine' W.ite_nself ?_))
  | ((with_reducible refine' W.ite_tf ?_))
  | ((with_reducible refine' W.ite_ft ?_))
  | ((with_reducible refine' W.ite_ntf ?_))
  | ((with_reducible refine' W.ite_nft ?_))
  | ((with_reducible refine' And.intro ?wl ?wq); (case wl => rfl)))
local macro_rules | `(tactic| walk_at "i") => `(tactic| try (dsimp only [L2.cxOf, L2.wipe, List.map, List.set]))
local macro_rules | `(tactic| walk_at "s") => `(tactic| first | walk_at "v" | walk_at "e" | walk_at "w")
local macro_rules | `(tactic| walk_at "r") => `(tactic| repeat walk_at "s")

namespace My
open PySem L2 W
variable {P : Program} {w : World} {K : PySem.W.Frag} {mg : Str → Option Value} {base : Heap} {A : Adr}
/-- the state: its draws at d, its place at a -/
def Drw (a d : Addr) (ds : List Int) (H : Hp) : Prop := ∃ i : Int, 0 ≤ i ∧ H a = some (.lst [.ref d, .int i]) ∧ H d = some (.lst (ds.map V.int))
theorem Drw.keep {S : List Addr} {H H' : Hp} {a d : Addr} {ds : List Int} (h : Drw a d ds H) (k : Keep S H H') (n0 : a ∉ S) (n1 : d ∉ S) : Drw a d ds H' := by
  obtain ⟨i, hi, h1, h2⟩ := h
  exact ⟨i, hi, k.get h1 n0, k.get h2 n1⟩
theorem Drw.more {H H' : Hp} {a d : Addr} {ds : List Int} (h : Drw a d ds H) (k : Keep [] H H') : Drw a d ds H' := h.keep k (by simp) (by simp)
theorem Drw.fre {H : Hp} {a d b : Addr} {ds : List Int} (h : Drw a d ds H) (e : H b = none) : b ≠ a ∧ b ≠ d := by
  obtain ⟨i, hi, h1, h2⟩ := h
  exact ⟨Ne.symm (ne_of_none h1 e), Ne.symm (ne_of_none h2 e)⟩
theorem Drw.mut {H H' : Hp} {a d b : Addr} {ds : List Int} (h : Drw a d ds H) (k : Keep [b] H H') (n : b ≠ a ∧ b ≠ d) : Drw a d ds H' := h.keep k (by simp [Ne.symm n.1]) (by simp [Ne.symm n.2])
def sp_next (K : PySem.W.Frag) : Sp := fun vs H Q _ => ∃ (a d : Addr) (ds : List Int) (m : Int), vs = [.ref a, .int m] ∧ Drw a d ds H ∧ 0 < m ∧
  ∀ v H', 0 ≤ v → v < m → Keep [a] H H' → Drw a d ds H' → Q (.int v) H'
theorem ok__law_next (e : Env K mg A) : FnOk P w K mg base CX0 3 A.f__law_next A.d__law_next ["state", "limit"] (sp_next K) := by
  have G__law_at := ok__law_at (P := P) (w := w) (base := base) e
  refine e.F__law_next.ok sc__law_next (fun vs H Q E h => ?_) (fun cdv AA outer s H vs Q E hr h => ?_)
  · obtain ⟨a, d, ds, m, rfl, _⟩ := h
    rfl
  · obtain ⟨a, d, ds, m, rfl, ⟨i, hi, ha, hd⟩, hm, q⟩ := h
    have had : d ≠ a := by
      intro z
      subst z
      rw [ha] at hd
      cases ds with
      | nil => cases hd
      | cons x r => cases hd
    refine ⟨_, (pss_cons (ps_augS (pv 0) pe_int (get_listK (K := K)) pe_int ip_add set_list)
    (pss_one (ps_ret (pe_op op_mod (pe_call G__law_at (hr.mono (by omega)) (by rfl) e.m__law_at e.k__law_at e.b__law_at .nil pass0 (pa_cons (pe_ix (ix_listK (K := K)) (pv 0) pe_int (fun _ _ => rfl)) (pa_cons (pe_ix (ix_listK (K := K)) (pv 0) pe_int (fun _ _ => rfl)) pa_nil))) (pv 1))))), ?_⟩
    refine enter (st__law_next _ _) ?_
    walk_at "i"
    walk_at "r"
    intro H1 k1 h1
    have hd1 : H1 d = some (.lst (ds.map V.int)) := by walk_at "k"
    walk_at "r"
    refine ⟨d, ds, i + 1, rfl, SqL.of hd1, by omega, fun v => ?_⟩
    walk_at "r"
    exact q _ H1 (Int.emod_nonneg _ (by omega)) (Int.emod_lt_of_pos _ hm) k1 ⟨i + 1, by omega, h1, hd1⟩
end My

end
section
set_option maxHeartbeats 4000000
/-! numbers in bytes, checksums, records: plain Lean -/
namespace My
open W PySem L2
theorem cutV_ne (vs : List V) (s e : Nat) : cutV vs (some (s : Int)) (some (e : Int)) = (vs.drop s).take (e - s) := by
  unfold cutV
  rw [HT.sIx_nat, HT.sIx_nat]
  by_cases h : s ≤ vs.length
  · rw [Nat.min_eq_left h]
    by_cases h2 : e ≤ vs.length
    · rw [Nat.min_eq_left h2]
    · rw [Nat.min_eq_right (by omega)]
      have e1 : (vs.drop s).take (vs.length - s) = vs.drop s := List.take_of_length_le (by rw [List.length_drop]; omega)
      have e2 : (vs.drop s).take (e - s) = vs.drop s := List.take_of_length_le (by rw [List.length_drop]; omega)
      rw [e1, e2]
  · have e1 : vs.drop (min s vs.length) = [] := List.drop_of_length_le (by omega)
    have e2 : vs.drop s = [] := List.drop_of_length_le (by omega)
    rw [e1, e2]; simp
theorem cutV_to (vs : List V) (e : Nat) : cutV vs none (some (e : Int)) = vs.take e := by
  have := cutV_ne vs 0 e
  rw [List.drop_zero, Nat.sub_zero] at this
  rw [← this]; unfold cutV; rw [HT.sIx_none, HT.sIx_nat, HT.sIx_nat]; simp
theorem cutV_from (vs : List V) (n : Nat) : cutV vs (some (n : Int)) none = vs.drop n := by
  have := cutV_ne vs n vs.length
  rw [List.take_of_length_le (by rw [List.length_drop]; omega)] at this
  rw [← this]; unfold cutV; rw [HT.sIx_none, HT.sIx_nat, HT.sIx_nat]; simp
theorem cutV_last (vs : List V) (n : Nat) (h : n ≤ vs.length) (h0 : 0 < n) : cutV vs (some (-(n : Int))) none = vs.drop (vs.length - n) := by
  have : HT.sIx vs.length 0 (some (-(n : Int))) = vs.length - n := by
    show (if -(n : Int) < 0 then (-(n : Int) + (vs.length : Int)).toNat else _) = _
    rw [if_pos (by omega)]; omega
  rw [← cutV_from]
  unfold cutV
  rw [this, HT.sIx_nat, Nat.min_eq_left (by omega)]
theorem eqvAll_ints : ∀ a b : List Int, PyData.eqvAll (a.map .int) (b.map .int) = decide (a = b)
  | [], [] => by simp [PyData.eqvAll]
  | [], _ :: _ => by simp [PyData.eqvAll]
  | _ :: _, [] => by simp [PyData.eqvAll]
  | x :: a, y :: b => by
    have := eqvAll_ints a b
    have e1 : PyData.eqv (.int x) (.int y) = (x == y) := by simp only [PyData.eqv]
    simp only [List.map_cons, PyData.eqvAll, e1, this]
    by_cases h : x = y
    · subst h; simp
    · simp [h]
theorem eqv_ints (a b : List Int) : PyData.eqv (.list (a.map .int)) (.list (b.map .int)) = decide (a = b) := by
  simp only [PyData.eqv]; exact eqvAll_ints a b
/-- a number's bytes -/
def wn (n : Nat) : List Int := if n < 128 then [(n : Int)] else ((n % 128 + 128 : Nat) : Int) :: wn (n / 128)
termination_by n
decreasing_by omega
theorem wn_lo {n : Nat} (h : n < 128) : wn n = [(n : Int)] := by rw [wn, if_pos h]
theorem wn_hi {n : Nat} (h : ¬ n < 128) : wn n = ((n % 128 + 128 : Nat) : Int) :: wn (n / 128) := by rw [wn, if_neg h]
theorem wn_len : ∀ (k n : Nat), n < 128 ^ (k + 1) → (wn n).length ≤ k + 1
  | 0, n, h => by rw [wn_lo (by omega)]; simp
  | k + 1, n, h => by
    by_cases h1 : n < 128
    · rw [wn_lo h1]; simp
    · rw [wn_hi h1, List.length_cons]
      have := wn_len k (n / 128) (by rw [Nat.div_lt_iff_lt_mul (by omega)]; rw [Nat.pow_succ] at h; exact h)
      omega
theorem wn_pos (n : Nat) : 0 < (wn n).length := by
  by_cases h : n < 128
  · rw [wn_lo h]; simp
  · rw [wn_hi h]; simp
/-- the reader of a number: what it takes and the number. f: signs left, i: signs read -/
def rn : Nat → List Int → Nat → Int → Int → Option (Nat × Int)
  | 0, _, _, _, _ => none
  | _ + 1, [], _, _, _ => none
  | f + 1, b :: r, i, t, c => if b < 128 then (if b = 0 ∧ 0 < i then none else some (i + 1, t + b % 128 * c)) else rn f r (i + 1) (t + b % 128 * c) (c * 128)
theorem rn_wn : ∀ (f n : Nat) (r : List Int) (i : Nat) (t c : Int), (wn n).length ≤ f → (0 < n ∨ i = 0) → rn f (wn n ++ r) i t c = some (i + (wn n).length, t + (n : Int) * c)
  | 0, n, _, _, _, _, h, _ => by have := wn_pos n; omega
  | f + 1, n, r, i, t, c, h, h0 => by
    by_cases h1 : n < 128
    · rw [wn_lo h1]
      show (if (n : Int) < 128 then (if (n : Int) = 0 ∧ 0 < i then none else some (i + 1, t + (n : Int) % 128 * c)) else _) = _
      rw [if_pos (by omega), if_neg (by omega), Int.emod_eq_of_lt (by omega) (by omega)]; rfl
    · rw [wn_hi h1] at h ⊢
      rw [List.length_cons] at h
      show (if ((n % 128 + 128 : Nat) : Int) < 128 then _ else rn f (wn (n / 128) ++ r) (i + 1) (t + ((n % 128 + 128 : Nat) : Int) % 128 * c) (c * 128)) = _
      rw [if_neg (by omega), rn_wn f (n / 128) r (i + 1) _ _ (by omega) (.inl (by omega))]
      have e1 : ((n % 128 + 128 : Nat) : Int) % 128 = (n : Int) % 128 := by omega
      have e2 : (n : Int) = (n : Int) % 128 + 128 * ((n / 128 : Nat) : Int) := by omega
      rw [e1, List.length_cons]
      congr 2
      · omega
      · generalize ((n / 128 : Nat) : Int) = q at e2
        generalize (n : Int) % 128 = m at e2
        rw [e2, Int.add_mul, Int.mul_comm 128 q, Int.mul_assoc, Int.mul_comm 128 c, Int.add_assoc]
/-- bytes that all go on: nothing is read -/
theorem rn_on : ∀ (f : Nat) (l : List Int) (i : Nat) (t c : Int), (∀ b ∈ l, 128 ≤ b) → rn f l i t c = none
  | 0, _, _, _, _, _ => rfl
  | _ + 1, [], _, _, _, _ => rfl
  | f + 1, b :: r, i, t, c, h => by
    show (if b < 128 then _ else _) = _
    rw [if_neg (by have := h b (by simp); omega)]
    exact rn_on f r _ _ _ (fun x hx => h x (by simp [hx]))
/-- .. then a needless zero -/
theorem rn_zero : ∀ (f : Nat) (l r : List Int) (i : Nat) (t c : Int), (∀ b ∈ l, 128 ≤ b) → (0 < i ∨ l ≠ []) → rn f (l ++ 0 :: r) i t c = none
  | 0, _, _, _, _, _, _, _ => rfl
  | f + 1, [], r, i, t, c, _, h => by
    have hi : 0 < i := h.elim id fun z => absurd rfl z
    show (if (0 : Int) < 128 then (if (0 : Int) = 0 ∧ 0 < i then none else _) else _) = _
    rw [if_pos (by omega), if_pos ⟨rfl, hi⟩]
  | f + 1, b :: l, r, i, t, c, h, _ => by
    show (if b < 128 then _ else rn f (l ++ 0 :: r) _ _ _) = _
    rw [if_neg (by have := h b (by simp); omega)]
    exact rn_zero f l r _ _ _ (fun x hx => h x (by simp [hx])) (.inl (by omega))
/-- all but the last byte of a number go on -/
theorem wn_init : ∀ (n : Nat) (k : Nat), n ≤ k → ∀ b ∈ (wn n).take ((wn n).length - 1), 128 ≤ b
  | n, 0, h, b, hb => by
    rw [wn_lo (by omega)] at hb; simp at hb
  | n, k + 1, h, b, hb => by
    by_cases h1 : n < 128
    · rw [wn_lo h1] at hb; simp at hb
    · rw [wn_hi h1] at hb
      rw [List.length_cons, Nat.add_sub_cancel] at hb
      have hp := wn_pos (n / 128)
      obtain ⟨m, hm⟩ : ∃ m, (wn (n / 128)).length = m + 1 := ⟨(wn (n / 128)).length - 1, by omega⟩
      rw [hm, List.take_succ_cons] at hb
      rcases List.mem_cons.mp hb with z | z
      · omega
      · exact wn_init (n / 128) k (by omega) b (by rw [hm]; exact z)
theorem wn_byte : ∀ (k n : Nat), n ≤ k → ∀ b ∈ wn n, 0 ≤ b ∧ b < 256
  | 0, n, h, b, hb => by rw [wn_lo (by omega)] at hb; simp at hb; omega
  | k + 1, n, h, b, hb => by
    by_cases h1 : n < 128
    · rw [wn_lo h1] at hb; simp at hb; omega
    · rw [wn_hi h1] at hb
      rcases List.mem_cons.mp hb with z | z
      · omega
      · exact wn_byte k (n / 128) (by omega) b z
/-- checksums -/
def ckS (t b : Int) : Int := (31 * t + b + 1) % 4294967296
def ck (l : List Int) : Int := l.foldl ckS 7
theorem ck_snoc (l : List Int) (b : Int) : ck (l ++ [b]) = ckS (ck l) b := by simp [ck]
theorem ckS_rng (t b : Int) : 0 ≤ ckS t b ∧ ckS t b < 4294967296 := ⟨Int.emod_nonneg _ (by decide), Int.emod_lt_of_pos _ (by decide)⟩
theorem fold_rng : ∀ (l : List Int) (t : Int), 0 ≤ t → t < 4294967296 → 0 ≤ l.foldl ckS t ∧ l.foldl ckS t < 4294967296
  | [], t, h, h' => ⟨h, h'⟩
  | b :: r, t, _, _ => fold_rng r _ (ckS_rng t b).1 (ckS_rng t b).2
theorem ck_rng (l : List Int) : 0 ≤ ck l ∧ ck l < 4294967296 := fold_rng l 7 (by decide) (by decide)
/-- what differs stays different -/
theorem ckS_inj {s t b : Int} (hs : 0 ≤ s ∧ s < 4294967296) (ht : 0 ≤ t ∧ t < 4294967296) (h : ckS s b = ckS t b) : s = t := by
  unfold ckS at h
  omega
theorem fold_inj : ∀ (l : List Int) {s t : Int}, 0 ≤ s ∧ s < 4294967296 → 0 ≤ t ∧ t < 4294967296 → l.foldl ckS s = l.foldl ckS t → s = t
  | [], _, _, _, _, h => h
  | b :: r, s, t, hs, ht, h => ckS_inj hs ht (fold_inj r (ckS_rng s b) (ckS_rng t b) h)
theorem ck_change (x y : List Int) (b c : Int) (hb : 0 ≤ b ∧ b < 256) (hc : 0 ≤ c ∧ c < 256) (n : b ≠ c) : ck (x ++ b :: y) ≠ ck (x ++ c :: y) := by
  unfold ck
  rw [List.foldl_append, List.foldl_append]
  intro h
  have := fold_inj y (ckS_rng _ b) (ckS_rng _ c) h
  unfold ckS at this
  omega
def tl4 (t : Int) : List Int := [t / 16777216, t / 65536 % 256, t / 256 % 256, t % 256]
theorem tl4_inj {s t : Int} (hs : 0 ≤ s ∧ s < 4294967296) (ht : 0 ≤ t ∧ t < 4294967296) (h : tl4 s = tl4 t) : s = t := by
  unfold tl4 at h
  simp only [List.cons.injEq, and_true] at h
  omega
def rec (d : List Int) : List Int := wn d.length ++ d ++ tl4 (ck d)
theorem rec_len (d : List Int) : (rec d).length = (wn d.length).length + d.length + 4 := by simp [rec, tl4]; omega
end My

end
section
set_option maxHeartbeats 4000000
local macro_rules | `(tactic| walk_at "k") => `(tactic| first
  | assumption
  | exact W.Keep.trans (by assumption) (by assumption)
  | exact And.intro (by grind [W.Keep, W.Kp]) (by grind [W.Keep, W.Kt])
  | grind [W.Keep, W.Kp])
local macro_rules | `(tactic| walk_at "f") => `(tactic| first
  | assumption
  | exact L2.SqL.of (by assumption)
  | exact L2.SqT.of (by assumption)
  | exact L2.SqL.of L2.upd_same
  | exact L2.SqT.of L2.upd_same
  | exact L2.upd_same
  | exact W.carryL (by assumption) (by assumption)
  | exact W.carryL (by assumption) (by walk_at "k")
  | exact W.carryT (by assumption) (by walk_at "k")
  | exact W.carry (by assumption) (by grind [W.Keep, W.Kp])
  | exact L2.SqL.of (W.carry (by assumption) (by grind [W.Keep, W.Kp]))
  | exact L2.SqT.of (W.carry (by assumption) (by grind [W.Keep, W.Kp])))
local macro_rules | `(tactic| walk_at "a") => `(tactic| first
  | assumption
  | rfl)
local macro_rules | `(tactic| walk_at "n") => `(tactic| first
  | assumption
  | exact Nat.zero_le _
  | decide
  | (simp only [List.length_cons, List.length_nil]; decide)
  | omega
  | (simp only [PySem.sizeLine_eq]; omega)
  | (simp only [List.length_map, List.length_append, List.length_cons, List.length_nil, PySem.sizeLine_eq]; omega)
  | (simp only [List.length_map, List.length_append, List.length_cons, List.length_nil, List.length_take, List.length_drop, PySem.sizeLine_eq]; omega)
  | (simp only [List.length_map, List.length_append, List.length_cons, List.length_nil, PySem.sizeLine_eq] at *; omega))
local macro_rules | `(tactic| walk_at "c") => `(tactic| first
  | assumption
  | decide
  | exact And.intro (by decide) (by decide)
  | exact Or.inr (And.intro (by decide) (by decide))
  | exact Or.inl (And.intro (by decide) (by decide))
  | exact And.intro (by decide) (And.intro (by decide) (by decide))
  | exact (show (0 : Int) < _ by decide)
  | exact And.intro (by omega) (by omega)
  | exact Or.inl (And.intro (by omega) (by omega))
  | exact Or.inr (And.intro (by omega) (by omega))
  | exact (show (0 : Int) < _ by omega))
local macro_rules | `(tactic| walk_at "v") => `(tactic| with_reducible first
  | refine W.v0 ?_ | refine W.v1 ?_ | refine W.v2 ?_ | refine W.v3 ?_ | refine W.v4 ?_ | refine W.v5 ?_ | refine W.v6 ?_ | refine W.v7 ?_ | refine W.v8 ?_
  | refine W.v9 ?_ | refine W.v10 ?_ | refine W.v11 ?_ | refine W.v12 ?_ | refine W.v13 ?_ | refine W.v14 ?_ | refine W.v15 ?_ | refine W.v16 ?_ | refine W.v17 ?_
  | refine W.g0 ?_ | refine W.g1 ?_ | refine W.g2 ?_ | refine W.g3 ?_ | refine W.g4 ?_ | refine W.g5 ?_ | refine W.g6 ?_ | refine W.g7 ?_ | refine W.g8 ?_
  | refine W.g9 ?_ | refine W.g10 ?_ | refine W.g11 ?_ | refine W.g12 ?_ | refine W.g13 ?_ | refine W.g14 ?_ | refine W.g15 ?_)
local macro_rules | `(tactic| walk_at "e") => `(tactic| with_reducible first
  | refine W.e_c ?_ | refine W.e_op ?_ | refine W.s_seq ?_ | refine W.s_asg ?_ | refine W.e_CB ?_ | refine W.a_cons ?_ | refine W.a_nil ?_ | refine W.e_call ?_
  | refine W.t_test ?_ | refine W.w_B ?_ | refine W.s_if ?_ | refine W.s_ret ?_ | refine W.s_drop ?_ | refine W.e_un ?_ | refine W.e_fld ?_ | refine W.s_fld ?_
  | refine W.e_meth ?_ | refine W.e_if ?_ | refine W.e_lst ?_ | refine W.e_tup ?_ | refine W.e_sl ?_ | refine W.o_none ?_ | refine W.o_some ?_ | refine W.w_part ?_
  | refine W.e_bm ?_ | refine W.e_bm0 ?_ | refine W.t_B ?_ | refine W.t_and ?_ | refine W.t_or ?_ | refine W.t_not ?_ | refine W.e_andV ?_ | refine W.e_orV ?_ | refine W.e_notV ?_ | refine W.w_BV ?_ | refine W.e_chain ?_
  | refine W.s_aug ?_ | refine W.s_augS ?_ | refine W.s_next ?_ | refine W.s_brk ?_ | refine W.s_cont ?_ | refine W.s_retN ?_ | refine W.s_fa ?_ | refine W.e_make ?_ | refine W.w_make ?_
  | refine W.w_I0 ?_ | refine W.w_U ?_ | refine W.w_aug ?_ | refine W.w_eqI ?_ | refine W.w_neI ?_ | refine W.w_eqS ?_ | refine W.w_neS ?_ | refine W.w_eqB ?_ | refine W.w_neB ?_
  | refine W.w_int ?_ | refine W.w_intB ?_ | refine W.w_min ?_ | refine W.w_max ?_ | refine W.w_isN ?_ | refine W.w_isI ?_ | refine W.w_isS ?_ | refine W.w_isB ?_ | refine W.w_isR ?_
  | refine W.w_notN ?_ | refine W.w_notI ?_ | refine W.w_notR ?_ | refine W.w_notS ?_ | refine W.w_eqNI ?_ | refine W.w_neNI ?_ | refine W.w_eqN ?_ | refine W.w_neN ?_
  | refine W.s_forL ?_ | refine W.s_forT ?_ | refine W.s_forS ?_ | refine W.s_forR1 ?_ | refine W.s_forR2 ?_ | refine W.s_forR3 ?_ | refine W.s_forZ ?_ | refine W.s_forE ?_
  | refine W.e_lcL ?_ | refine W.e_lcR1 ?_ | refine W.e_lcR2 ?_ | refine W.e_lcZ ?_ | refine W.e_lcS ?_ | refine W.t_yes ?_ | refine W.w_gcons ?_ | refine W.w_gnil ?_ | refine W.s_par ?_ | refine W.w_par ?_ | refine W.g_sub ?_ | refine W.e_m1 ?_ | refine W.w_strR ?_ | refine W.w_rAdd ?_ | refine W.w_rSub ?_ | refine W.s_raise ?_ | refine W.s_try ?_ | refine W.e_methS ?_)
local macro_rules | `(tactic| walk_at "w") => `(tactic| first
  | ((with_reducible refine' W.w_I ?wh ?wq); (case wh => walk_at "c"))
  | ((with_reducible refine' W.w_ixL (n := 0) ?wh ?we ?wq); (case wh => walk_at "f"); (case we => walk_at "a"))
  | ((with_reducible refine' W.w_ixT (n := 0) ?wh ?we ?wq); (case wh => walk_at "f"); (case we => walk_at "a"))
  | ((with_reducible refine' W.w_lenL ?wh ?wq); (case wh => walk_at "f"))
  | ((with_reducible refine' W.w_lenT ?wh ?wq); (case wh => walk_at "f"))
  | ((with_reducible refine' W.w_lenS ?wh ?wq); (case wh => walk_at "n"))
  | ((with_reducible refine' W.w_app ?wh ?we ?wq); (case wh => walk_at "f"); (case we => walk_at "n"))
  | ((with_reducible refine' W.w_meth ?wh ?we ?wq); (case wh => walk_at "f"); (case we => first | assumption | rfl))
  | ((with_reducible refine' W.w_ixLTl ?wh ?we ?wq); (case wh => walk_at "f"); (case we => walk_at "a"))
  | ((with_reducible refine' W.w_ixLTt ?wh ?we ?wq); (case wh => walk_at "f"); (case we => walk_at "a"))
  | ((with_reducible refine' W.w_addS ?wh ?wq); (case wh => walk_at "n"))
  | ((with_reducible refine' W.w_set ?wh ?we ?wq); (case wh => walk_at "f"); (case we => walk_at "a"))
  | ((with_reducible refine' W.w_tup ?wh ?we ?wq); (case wh => walk_at "f"); (case we => first | assumption | rfl))
  | ((with_reducible refine' W.w_slS ?wh ?wq); (case wh => walk_at "n"))
  | ((with_reducible refine' W.w_rApp ?wh ?we ?wq); (case wh => walk_at "f"); (case we => walk_at "n"))
  | ((with_reducible refine' W.w_newL ?wh ?wq); (case wh => walk_at "n"))
  | ((with_reducible refine' W.w_newT ?wh ?wq); (case wh => walk_at "n"))
  | ((with_reducible refine' W.w_listL ?wh ?wq); (case wh => walk_at "f"))
  | ((with_reducible refine' W.w_tupL ?wh ?wq); (case wh => walk_at "f"))
  | ((with_reducible refine' W.w_slL ?wh ?wq); (case wh => walk_at "f"))
  | ((with_reducible refine' W.w_cat ?wh ?wf ?we ?wq); (case wh => walk_at "f"); (case wf => walk_at "f"); (case we => walk_at "n"))
  | ((with_reducible refine' W.w_ext ?wh ?wf ?we ?wq); (case wh => walk_at "f"); (case wf => walk_at "f"); (case we => walk_at "n"))
  | ((with_reducible refine' W.w_recv ?wh ?wq); (case wh => walk_at "f"))
  | ((with_reducible refine' W.w_isi1 ?wh ?we ?wq); (case wh => assumption); (case we => decide +kernel))
  | ((with_reducible refine' W.w_isi0 ?wh ?we ?wq); (case wh => assumption); (case we => decide +kernel))
  | ((with_reducible refine' W.w_isiT10 ?wh ?wf ?we ?wg ?wq); (case wh => assumption); (case wf => walk_at "f"); (case we => decide +kernel); (case wg => decide +kernel))
  | ((with_reducible refine' W.w_isiT01 ?wh ?wf ?we ?wg ?wq); (case wh => assumption); (case wf => walk_at "f"); (case we => decide +kernel); (case wg => decide +kernel))
  | ((with_reducible refine' W.w_isiT00 ?wh ?wf ?we ?wg ?wq); (case wh => assumption); (case wf => walk_at "f"); (case we => decide +kernel); (case wg => decide +kernel))
  | ((with_reducible refine' W.w_ins ?wh ?we ?wf ?wq); (case wh => walk_at "f"); (case we => walk_at "n"); (case wf => walk_at "c"))
  | ((with_reducible refine' W.w_unl ?wh ?we ?wq); (case wh => walk_at "f"); (case we => first | assumption | rfl))
  | ((with_reducible refine' W.ite_T ?_))
  | ((with_reducible refine' W.ite_F ?_))
  | ((with_reducible refine' W.ite_nT ?_))
  | ((with_reducible refine' W.ite_nF ?_))
  | ((with_reducible refine' W.ite_self ?_))
  | ((with_reducible refine' W.ite_nself ?_))
  | ((with_reducible refine' W.ite_tf ?_))
  | ((with_reducible refine' W.ite_ft ?_))
  | ((with_reducible refine' W.ite_ntf ?_))
  | ((with_reducible refine' W.ite_nft ?_))
  | ((with_reducible refine' And.intro ?wl ?wq); (case wl => rfl)))
local macro_rules | `(tactic| walk_at "i") => `(tactic| try (dsimp only [L2.cxOf, L2.wipe, List.map, List.set]))
local macro_rules | `(tactic| walk_at "s") => `(tactic| first | walk_at "v" | walk_at "e" | walk_at "w")
local macro_rules | `(tactic| walk_at "r") => `(tactic| repeat walk_at "s")

namespace My
open PySem L2 W
/-- a reader's fields -/
def rdF (d : Addr) (p : Nat) : List (Str × V) := [("data", .ref d), ("at", .int (p : Int))]
theorem ne1 : ¬ (("data" : Str) = "at") := by decide +kernel
theorem lk1 {d : Addr} {p : Nat} : (rdF d p).lookup ("data" : Str) = some (.ref d) := by simp [rdF, List.lookup]
theorem lk2 {d : Addr} {p : Nat} : (rdF d p).lookup ("at" : Str) = some (.int (p : Int)) := by
  have h : (("at" : Str) == "data") = false := by decide +kernel
  simp [rdF, List.lookup, h]
theorem lkn {d : Addr} {p : Nat} {m : Str} (h1 : (m == ("data" : Str)) = false) (h2 : (m == ("at" : Str)) = false) : (rdF d p).lookup m = none := by simp [rdF, List.lookup, h1, h2]
theorem pf0 {d : Addr} : putF "at" (.int 0) (putF "data" (.ref d) []) = rdF d 0 := by
  show (if ("data" : Str) = "at" then _ else (("data" : Str), V.ref d) :: [(("at" : Str), V.int 0)]) = _
  rw [if_neg ne1]; rfl
theorem pf1 {d : Addr} {p : Nat} : putF "at" (.int ((p : Int) + 1)) (rdF d p) = rdF d (p + 1) := by
  show (if ("data" : Str) = "at" then _ else (("data" : Str), V.ref d) :: (if ("at" : Str) = "at" then [(("at" : Str), V.int ((p : Int) + 1))] else _)) = _
  rw [if_neg ne1, if_pos rfl]; rfl
local macro_rules | `(tactic| walk_at "w") => `(tactic| first
  | ((with_reducible refine' W.w_getF ?wh ?wc ?wn ?wl ?wq); (case wh => walk_at "f"); (case wc => exact Env.c_Reader (by assumption)); (case wn => first | exact Env.x_Reader_data (by assumption) | exact Env.x_Reader_at (by assumption)); (case wl => first | exact lk1 | exact lk2))
  | ((with_reducible refine' W.w_fa ?wh ?wc ?wn ?wl ?wq); (case wh => walk_at "f"); (case wc => exact Env.c_Reader (by assumption)); (case wn => first | exact Env.x_Reader_data (by assumption) | exact Env.x_Reader_at (by assumption)); (case wl => first | exact lk1 | exact lk2))
  | ((with_reducible refine' W.w_pf ?wh ?wl ?wq); (case wh => walk_at "f"); (case wl => exact (show 2 < 1000 by decide)))
  | ((with_reducible refine' W.w_setF ?wh ?wc ?wn ?wl ?wq); (case wh => walk_at "f"); (case wc => exact Env.c_Reader (by assumption)); (case wn => first | exact Env.x_Reader_data (by assumption) | exact Env.x_Reader_at (by assumption)); (case wl => first | exact (show 2 < 1000 by decide) | exact (show 0 < 1000 by decide) | exact Nat.lt_of_le_of_lt (length_putF _ _ _) (show 1 < 1000 by decide))))
variable {P : Program} {w : World} {K : PySem.W.Frag} {mg : Str → Option Value} {base : Heap} {A : Adr}
theorem exm_D (e : Env K mg A) : PySem.W.exmOne K (.ref A.C_DamagedPacket) (.ref A.C_DamagedPacket) = some true := exm_self e.bb_DamagedPacket e.ii_DamagedPacket e.tt_DamagedPacket e.sub_DamagedPacket_DamagedPacket
/-- a reader stands at r, its bytes at d -/
def RdAt (C : Addr) (H : Hp) (r dx d : Addr) (ds : List Int) (p : Nat) : Prop := H r = some (.ins C dx (rdF d p)) ∧ H d = some (.lst (ds.map V.int))
def sp_init (A : Adr) (K : PySem.W.Frag) : Sp := fun vs H Q _ => ∃ (r dx a : Addr) (ds : List Int), vs = [.ref r, .ref a] ∧ H r = some (.ins A.C_Reader dx []) ∧ H a = some (.lst (ds.map V.int)) ∧
  ∀ d H', H d = none → Keep [r] H H' → RdAt A.C_Reader H' r dx d ds 0 → Q .non H'
theorem ok_Reader___init__ (e : Env K mg A) : FnOk P w K mg base CX0 1 A.f_Reader___init__ A.d_Reader___init__ ["self", "data"] (sp_init A K) := by
  refine e.F_Reader___init__.ok sc_Reader___init__ (fun vs H Q E h => ?_) (fun cdv AA outer s H vs Q E hr h => ?_)
  · obtain ⟨r, dx, a, ds, rfl, _⟩ := h
    rfl
  · obtain ⟨r, dx, a, ds, rfl, hr0, ha, q⟩ := h
    refine ⟨_, (pss_cons (ps_fldK (K := K) (pv 0) (pe_callTy (call_listLK (K := K)) (by rfl) e.n_list (by decide +kernel) (pa_cons (pv 1) pa_nil)) rfl)
    (pss_one (ps_fldK (K := K) (pv 0) pe_int rfl))), ?_⟩
    refine enter (st_Reader___init__ _ _) ?_
    walk_at "i"
    walk_at "r"
    intro d H1 nd k1 hd
    walk_at "r"
    intro H2 k2 h2
    have rd : d ≠ r := Ne.symm (ne_of_none hr0 nd)
    have hd2 := k2.get hd (by simp [rd])
    walk_at "r"
    intro H3 k3 h3
    rw [pf0] at h3
    walk_at "r"
    exact q d H3 nd (k1.any.trans (k2.trans k3)) ⟨h3, k3.get hd2 (by simp [rd])⟩
def sp_byte (A : Adr) : Sp := fun vs H Q E => ∃ (r dx d : Addr) (ds : List Int) (p : Nat), vs = [.ref r] ∧ RdAt A.C_Reader H r dx d ds p ∧
  (p < ds.length → ∀ H', Keep [r] H H' → RdAt A.C_Reader H' r dx d ds (p + 1) → Q (.int (ds.getD p 0)) H') ∧ (¬ p < ds.length → E (.ref A.C_DamagedPacket) none H)
theorem RdAt.ne {C : Addr} {H : Hp} {r dx d : Addr} {ds : List Int} {p : Nat} (h : RdAt C H r dx d ds p) : d ≠ r := by
  intro z; subst z; obtain ⟨h1, h2⟩ := h; rw [h1] at h2; cases h2
theorem RdAt.keep {S : List Addr} {C : Addr} {H H' : Hp} {r dx d : Addr} {ds : List Int} {p : Nat} (h : RdAt C H r dx d ds p) (k : Keep S H H') (n : r ∉ S) (n2 : d ∉ S) : RdAt C H' r dx d ds p := ⟨k.get h.1 n, k.get h.2 n2⟩
theorem ok_Reader_read_byte (e : Env K mg A) : FnOk P w K mg base (L2.CX P w) 1 A.f_Reader_read_byte A.d_Reader_read_byte ["self"] (sp_byte A) := by
  refine e.F_Reader_read_byte.okX sc_Reader_read_byte (fun vs H Q E h => ?_) (fun cdv AA outer s H vs Q E hr h => ?_)
  · obtain ⟨r, dx, d, ds, p, rfl, _⟩ := h
    rfl
  · obtain ⟨r, dx, d, ds, p, rfl, hR, q1, q2⟩ := h
    have hne := hR.ne
    obtain ⟨h1, h2⟩ := hR
    refine ⟨_, (pss_cons (ps_if (pt_cmpR op_ge (pe_fldK (K := K) (pv 0) rfl) (pe_callB (call_lenLK (K := K)) (by rfl) e.n_len (by decide +kernel) (pa_cons (pe_fldK (K := K) (pv 0) rfl) pa_nil)) (nomark _)) (pss_one (ps_raise1 rfl (takes_of rfl rfl rfl rfl) PySem.F.excBase_ValueError e.xx_DamagedPacket e.m_DamagedPacket e.kk_DamagedPacket (raises_own e.bb_DamagedPacket e.tt_DamagedPacket) (by rfl))) pss_nil)
    (pss_cons (ps_fldaugK (K := K) (pv 0) pe_int in_add)
    (pss_one (ps_ret (pe_ix (ix_listK (K := K)) (pe_fldK (K := K) (pv 0) rfl) (pe_op op_sub (pe_fldK (K := K) (pv 0) rfl) pe_int) (fun _ _ => rfl)))))), ?_⟩
    refine enter (st_Reader_read_byte _) ?_
    walk_at "i"
    walk_at "r"
    rw [List.length_map]
    refine ite_dec (fun hl => ?_) (fun hl => ?_)
    · walk_at "r"
      exact q2 (by omega)
    · walk_at "r"
      intro H1 k1 h3
      rw [pf1] at h3
      have hd1 := k1.get h2 (by simp [hne])
      have hp : p < ds.length := by omega
      have hat : atI (ds.map V.int) (((p + 1 : Nat) : Int) - 1) = some (.int (ds.getD p 0)) := by
        rw [show ((p + 1 : Nat) : Int) - 1 = (p : Int) by omega]
        refine atI_nat ?_
        rw [List.getElem?_map, List.getD_eq_getElem?_getD, List.getElem?_eq_getElem hp]; rfl
      walk_at "r"
      exact q1 hp H1 k1 ⟨h3, hd1⟩
/-- what read_number does with what is left -/
def sp_rnum (A : Adr) : Sp := fun vs H Q E => ∃ (r dx d : Addr) (ds : List Int) (p : Nat), vs = [.ref r] ∧ RdAt A.C_Reader H r dx d ds p ∧
  (∀ i n, rn 60 (ds.drop p) 0 0 1 = some (i, n) → ∀ H', Keep [r] H H' → RdAt A.C_Reader H' r dx d ds (p + i) → Q (.int n) H') ∧ (rn 60 (ds.drop p) 0 0 1 = none → ∀ H' p', Keep [r] H H' → RdAt A.C_Reader H' r dx d ds p' → E (.ref A.C_DamagedPacket) none H')
theorem ok_Reader_read_number (e : Env K mg A) : FnOk P w K mg base (L2.CX P w) 2 A.f_Reader_read_number A.d_Reader_read_number ["self"] (sp_rnum A) := by
  have G_Reader_read_byte := ok_Reader_read_byte (P := P) (w := w) (base := base) e
  refine e.F_Reader_read_number.okX sc_Reader_read_number (fun vs H Q E h => ?_) (fun cdv AA outer s H vs Q E hr h => ?_)
  · obtain ⟨r, dx, d, ds, p, rfl, _⟩ := h
    rfl
  · obtain ⟨r, dx, d, ds, p, rfl, hR, q1, q2⟩ := h
    refine ⟨_, (pss_cons (ps_set (i := 1) sc_Reader_read_number.nd rfl (Or.inl rfl) pe_int)
    (pss_cons (ps_set (i := 2) sc_Reader_read_number.nd rfl (Or.inl rfl) pe_int)
    (pss_cons (ps_for (passes_of rfl) rfl (pi_range1 rfl e.n_range (pa_cons (pe_glob (by rfl) e.m_NUMBER_BYTES e.r_NUMBER_BYTES) pa_nil)) (pg_name (i := 3) sc_Reader_read_number.nd rfl (Or.inl rfl)) (pss_cons (ps_set (i := 4) sc_Reader_read_number.nd rfl (Or.inl rfl) (pe_meth0 (pv 0) e.c_Reader e.h_Reader_read_byte G_Reader_read_byte (hr.mono (by omega)) e.b_Reader_read_byte .nil (passes_call (takes_of rfl rfl rfl rfl) (fun _ _ _ _ h => h))))
    (pss_cons (ps_aug (i := 1) sc_Reader_read_number.nd rfl (Or.inl rfl) (pe_op op_mul (pe_op op_mod (pv 4) pe_int) (pv 2)) ip_add)
    (pss_cons (ps_if (pt_cmpR op_lt (pv 4) pe_int (nomark _)) (pss_cons (ps_if (PW.pt (pw_and (pt_cmpR op_eq (pv 4) pe_int (nomark _)) (pw_and1 (pt_cmpR op_gt (pv 3) pe_int (nomark _))))) (pss_one (ps_raise1 rfl (takes_of rfl rfl rfl rfl) PySem.F.excBase_ValueError e.xx_DamagedPacket e.m_DamagedPacket e.kk_DamagedPacket (raises_own e.bb_DamagedPacket e.tt_DamagedPacket) (by rfl))) pss_nil)
    (pss_one (ps_ret (pv 1)))) pss_nil)
    (pss_one (ps_set (i := 2) sc_Reader_read_number.nd rfl (Or.inl rfl) (pe_op op_mul (pv 2) pe_int)))))))
    (pss_one (ps_raise1 rfl (takes_of rfl rfl rfl rfl) PySem.F.excBase_ValueError e.xx_DamagedPacket e.m_DamagedPacket e.kk_DamagedPacket (raises_own e.bb_DamagedPacket e.tt_DamagedPacket) (by rfl)))))), ?_⟩
    refine enter (st_Reader_read_number _) ?_
    walk_at "i"
    walk_at "r"
    refine forR1 (by omega) (by omega) (fun i σ H' => ∃ (t c : Int) (v3 v4 : Option V), σ = [some (.ref r), some (.int t), some (.int c), v3, v4] ∧ Keep [r] H H' ∧ RdAt A.C_Reader H' r dx d ds (p + i) ∧ i ≤ 60 ∧
        rn 60 (ds.drop p) 0 0 1 = rn (60 - i) (ds.drop (p + i)) i t c)
      ⟨_, _, _, _, rfl, Keep.refl, hR, by omega, rfl⟩ ?_ ?_
    · rintro i σ H1 hi ⟨t, c, v3, v4, rfl, k1, R1, hi2, hrn⟩
      have hr1 := R1.1
      obtain ⟨f, hf⟩ : ∃ f, 60 - i = f + 1 := ⟨59 - i, by omega⟩
      rw [hf] at hrn
      have hlk : (rdF d (p + i)).lookup ("read_byte" : Str) = none := lkn (by decide +kernel) (by decide +kernel)
      walk_at "r"
      refine ⟨r, dx, d, ds, p + i, rfl, R1, fun hp H2 k2 R2 => ?_, fun hp => ?_⟩
      · have hd : ds.drop (p + i) = ds.getD (p + i) 0 :: ds.drop (p + (i + 1)) := by
          rw [List.drop_eq_getElem_cons hp, List.getD_eq_getElem?_getD, List.getElem?_eq_getElem hp]; rfl
        rw [hd] at hrn
        generalize ds.getD (p + i) 0 = b at hrn
        have hrn2 : rn 60 (ds.drop p) 0 0 1 = if b < 128 then (if b = 0 ∧ 0 < i then none else some (i + 1, t + b % 128 * c)) else rn f (ds.drop (p + (i + 1))) (i + 1) (t + b % 128 * c) (c * 128) := hrn
        have R2' : RdAt A.C_Reader H2 r dx d ds (p + (i + 1)) := R2
        walk_at "r"
        refine ite_dec (fun hb => ?_) (fun hb => ?_)
        · rw [if_pos hb] at hrn2
          walk_at "r"
          have ret : ¬ (b = 0 ∧ 0 < i) → Q (.int (t + b % 128 * c)) H2 := fun z => by
            rw [if_neg z] at hrn2
            exact q1 _ _ hrn2 H2 (k1.trans k2) R2'
          refine ite_dec (fun h0 => ?_) (fun h0 => ?_)
          · walk_at "r"
            refine ite_dec (fun h1 => ?_) (fun h1 => ?_)
            · walk_at "r"
              rw [if_pos ⟨h0, by omega⟩] at hrn2
              exact q2 hrn2 H2 _ (k1.trans k2) R2'
            · walk_at "r"
              exact ret (fun z => h1 (by omega))
          · walk_at "r"
            exact ret (fun z => h0 z.1)
        · rw [if_neg hb] at hrn2
          walk_at "r"
          refine ⟨_, _, _, _, rfl, k1.trans k2, R2', by omega, ?_⟩
          rw [hrn2, show 60 - (i + 1) = f by omega]
      · rw [show ds.drop (p + i) = [] from List.drop_of_length_le (by omega)] at hrn
        exact q2 hrn H1 _ k1 R1
    · rintro σ H1 ⟨t, c, v3, v4, rfl, k1, R1, hi2, hrn⟩
      walk_at "r"
      exact q2 hrn H1 _ k1 R1
/-- numbers written -/
def sp_wn (K : PySem.W.Frag) : Sp := fun vs H Q _ => ∃ n : Nat, vs = [.int (n : Int)] ∧ n < 128 ^ 60 ∧ ∀ p H', H p = none → Keep [] H H' → H' p = some (.lst ((wn n).map V.int)) → Q (.ref p) H'
theorem ok_write_number (e : Env K mg A) : FnOk P w K mg base CX0 1 A.f_write_number A.d_write_number ["number"] (sp_wn K) := by
  refine e.F_write_number.ok sc_write_number (fun vs H Q E h => ?_) (fun cdv AA outer s H vs Q E hr h => ?_)
  · obtain ⟨n, rfl, _⟩ := h
    rfl
  · obtain ⟨n, rfl, hn, q⟩ := h
    refine ⟨_, (pss_cons (ps_set (i := 1) sc_write_number.nd rfl (Or.inl rfl) (pe_lst pa_nil))
    (pss_cons (ps_while PassesOwn.never (pt_cmpR op_ge (pv 0) pe_int (nomark _)) (pss_cons (ps_expr (pe_bmK (K := K) PySem.F.plainAttrs_list PySem.F.slot_list_append PySem.F.type_list_append mt_append (pv 1) (pa_cons (pe_op op_add (pe_op op_mod (pv 0) pe_int) pe_int) pa_nil)))
    (pss_one (ps_set (i := 0) sc_write_number.nd rfl (Or.inl rfl) (pe_op op_fdiv (pv 0) pe_int)))))
    (pss_one (ps_ret (pe_op op_cat (pv 1) (pe_lst (pa_cons (pv 0) pa_nil))))))), ?_⟩
    refine enter (st_write_number _) ?_
    walk_at "i"
    walk_at "r"
    intro p H1 np k1 hp
    walk_at "r"
    have hlen := wn_len 59 n hn
    refine while_ (fun m σ H' => ∃ (xs : List Int), σ = [some (.int (m : Int)), some (.ref p)] ∧ Keep [] H H' ∧ H' p = some (.lst (xs.map V.int)) ∧ wn n = xs ++ wn m) n ⟨[], rfl, k1, hp, rfl⟩ ?_
    rintro m σ H2 ⟨xs, rfl, k2, h2, hw⟩
    have hxl : xs.length ≤ 60 := by have := congrArg List.length hw; rw [List.length_append] at this; omega
    walk_at "r"
    refine ite_dec (fun hm => ?_) (fun hm => ?_)
    · refine turn ?_
      walk_at "r"
      intro H3 k3 h3
      walk_at "r"
      refine ⟨m / 128, by omega, xs ++ [((m % 128 + 128 : Nat) : Int)], ?_, k2.mut np k3, ?_, ?_⟩
      · rw [show ((m / 128 : Nat) : Int) = (m : Int) / 128 by omega]
      · rw [h3, List.map_append, show ((m % 128 + 128 : Nat) : Int) = (m : Int) % 128 + 128 by omega]; rfl
      · rw [hw, wn_hi (by omega)]; simp
    · walk_at "r"
      intro a H3 na k3 ha
      walk_at "r"
      have hp3 := k3.get h2 (by simp)
      intro c H4 nc k4 hc
      walk_at "r"
      refine q c H4 ?_ (k2.trans (k3.trans k4)) ?_
      · exact (k2.trans k3).free nc (by simp)
      · rw [hc, hw, wn_lo (by omega), List.map_append]; rfl
def sp_ck (K : PySem.W.Frag) : Sp := fun vs H Q _ => ∃ (a : Addr) (ds : List Int), vs = [.ref a] ∧ H a = some (.lst (ds.map V.int)) ∧ Q (.int (ck ds)) H
theorem ok_checksum (e : Env K mg A) : FnOk P w K mg base CX0 1 A.f_checksum A.d_checksum ["data"] (sp_ck K) := by
  refine e.F_checksum.ok sc_checksum (fun vs H Q E h => ?_) (fun cdv AA outer s H vs Q E hr h => ?_)
  · obtain ⟨a, ds, rfl, _⟩ := h
    rfl
  · obtain ⟨a, ds, rfl, ha, q⟩ := h
    refine ⟨_, (pss_cons (ps_set (i := 1) sc_checksum.nd rfl (Or.inl rfl) pe_int)
    (pss_cons (ps_for PassesOwn.never rfl (pi_listK (K := K) (pv 0)) (pg_name (i := 2) sc_checksum.nd rfl (Or.inl rfl)) (pss_one (ps_set (i := 1) sc_checksum.nd rfl (Or.inl rfl) (pe_op op_mod (pe_op op_add (pe_op op_add (pe_op op_mul pe_int (pv 1)) (pv 2)) pe_int) (pe_glob (by rfl) e.m_CHECKSUM_LIMIT e.r_CHECKSUM_LIMIT)))))
    (pss_one (ps_ret (pv 1))))), ?_⟩
    refine enter (st_checksum _) ?_
    walk_at "i"
    walk_at "r"
    refine forL (SqL.of ha) (fun i σ H' => ∃ v2, σ = [some (.ref a), some (.int (ck (ds.take i))), v2] ∧ H' = H) ⟨_, rfl, rfl⟩ (fun i σ H' _ h => ?_) ?_ ?_
    · obtain ⟨_, _, rfl⟩ := h
      exact SqL.of ha
    · rintro i x σ H' hx ⟨v2, rfl, rfl⟩
      rw [List.getElem?_map] at hx
      cases hb : ds[i]? with
      | none => rw [hb] at hx; cases hx
      | some b =>
        rw [hb] at hx
        cases hx
        have hr := ck_rng (ds.take i)
        walk_at "r"
        refine ⟨some (.int b), ?_, rfl⟩
        rw [List.take_add_one, hb]
        show _ = [_, some (V.int (ck (ds.take i ++ [b]))), _]
        rw [ck_snoc]; rfl
    · rintro σ H' ⟨v2, rfl, rfl⟩
      walk_at "r"
      rw [List.length_map, List.take_length]
      exact q
end My

end
section
set_option maxHeartbeats 4000000
local macro_rules | `(tactic| walk_at "k") => `(tactic| first
  | assumption
  | exact W.Keep.trans (by assumption) (by assumption)
  | exact And.intro (by grind [W.Keep, W.Kp]) (by grind [W.Keep, W.Kt])
  | grind [W.Keep, W.Kp])
local macro_rules | `(tactic| walk_at "f") => `(tactic| first
  | assumption
  | exact L2.SqL.of (by assumption)
  | exact L2.SqT.of (by assumption)
  | exact L2.SqL.of L2.upd_same
  | exact L2.SqT.of L2.upd_same
  | exact L2.upd_same
  | exact W.carryL (by assumption) (by assumption)
  | exact W.carryL (by assumption) (by walk_at "k")
  | exact W.carryT (by assumption) (by walk_at "k")
  | exact W.carry (by assumption) (by grind [W.Keep, W.Kp])
  | exact L2.SqL.of (W.carry (by assumption) (by grind [W.Keep, W.Kp]))
  | exact L2.SqT.of (W.carry (by assumption) (by grind [W.Keep, W.Kp])))
local macro_rules | `(tactic| walk_at "a") => `(tactic| first
  | assumption
  | rfl)
local macro_rules | `(tactic| walk_at "n") => `(tactic| first
  | assumption
  | exact Nat.zero_le _
  | decide
  | (simp only [List.length_cons, List.length_nil]; decide)
  | omega
  | (simp only [PySem.sizeLine_eq]; omega)
  | (simp only [List.length_map, List.length_append, List.length_cons, List.length_nil, PySem.sizeLine_eq]; omega)
  | (simp only [List.length_map, List.length_append, List.length_cons, List.length_nil, List.length_take, List.length_drop, PySem.sizeLine_eq]; omega)
  | (simp only [List.length_map, List.length_append, List.length_cons, List.length_nil, PySem.sizeLine_eq] at *; omega))
local macro_rules | `(tactic| walk_at "c") => `(tactic| first
  | assumption
  | decide
  | exact And.intro (by decide) (by decide)
  | exact Or.inr (And.intro (by decide) (by decide))
  | exact Or.inl (And.intro (by decide) (by decide))
  | exact And.intro (by decide) (And.intro (by decide) (by decide))
  | exact (show (0 : Int) < _ by decide)
  | exact And.intro (by omega) (by omega)
  | exact Or.inl (And.intro (by omega) (by omega))
  | exact Or.inr (And.intro (by omega) (by omega))
  | exact (show (0 : Int) < _ by omega))
local macro_rules | `(tactic| walk_at "v") => `(tactic| with_reducible first
  | refine W.v0 ?_ | refine W.v1 ?_ | refine W.v2 ?_ | refine W.v3 ?_ | refine W.v4 ?_ | refine W.v5 ?_ | refine W.v6 ?_ | refine W.v7 ?_ | refine W.v8 ?_
  | refine W.v9 ?_ | refine W.v10 ?_ | refine W.v11 ?_ | refine W.v12 ?_ | refine W.v13 ?_ | refine W.v14 ?_ | refine W.v15 ?_ | refine W.v16 ?_ | refine W.v17 ?_
  | refine W.g0 ?_ | refine W.g1 ?_ | refine W.g2 ?_ | refine W.g3 ?_ | refine W.g4 ?_ | refine W.g5 ?_ | refine W.g6 ?_ | refine W.g7 ?_ | refine W.g8 ?_
  | refine W.g9 ?_ | refine W.g10 ?_ | refine W.g11 ?_ | refine W.g12 ?_ | refine W.g13 ?_ | refine W.g14 ?_ | refine W.g15 ?_)
local macro_rules | `(tactic| walk_at "e") => `(tactic| with_reducible first
  | refine W.e_c ?_ | refine W.e_op ?_ | refine W.s_seq ?_ | refine W.s_asg ?_ | refine W.e_CB ?_ | refine W.a_cons ?_ | refine W.a_nil ?_ | refine W.e_call ?_
  | refine W.t_test ?_ | refine W.w_B ?_ | refine W.s_if ?_ | refine W.s_ret ?_ | refine W.s_drop ?_ | refine W.e_un ?_ | refine W.e_fld ?_ | refine W.s_fld ?_
  | refine W.e_meth ?_ | refine W.e_if ?_ | refine W.e_lst ?_ | refine W.e_tup ?_ | refine W.e_sl ?_ | refine W.o_none ?_ | refine W.o_some ?_ | refine W.w_part ?_
  | refine W.e_bm ?_ | refine W.e_bm0 ?_ | refine W.t_B ?_ | refine W.t_and ?_ | refine W.t_or ?_ | refine W.t_not ?_ | refine W.e_andV ?_ | refine W.e_orV ?_ | refine W.e_notV ?_ | refine W.w_BV ?_ | refine W.e_chain ?_
  | refine W.s_aug ?_ | refine W.s_augS ?_ | refine W.s_next ?_ | refine W.s_brk ?_ | refine W.s_cont ?_ | refine W.s_retN ?_ | refine W.s_fa ?_ | refine W.e_make ?_ | refine W.w_make ?_
  | refine W.w_I0 ?_ | refine W.w_U ?_ | refine W.w_aug ?_ | refine W.w_eqI ?_ | refine W.w_neI ?_ | refine W.w_eqS ?_ | refine W.w_neS ?_ | refine W.w_eqB ?_ | refine W.w_neB ?_
  | refine W.w_int ?_ | refine W.w_intB ?_ | refine W.w_min ?_ | refine W.w_max ?_ | refine W.w_isN ?_ | refine W.w_isI ?_ | refine W.w_isS ?_ | refine W.w_isB ?_ | refine W.w_isR ?_
  | refine W.w_notN ?_ | refine W.w_notI ?_ | refine W.w_notR ?_ | refine W.w_notS ?_ | refine W.w_eqNI ?_ | refine W.w_neNI ?_ | refine W.w_eqN ?_ | refine W.w_neN ?_
  | refine W.s_forL ?_ | refine W.s_forT ?_ | refine W.s_forS ?_ | refine W.s_forR1 ?_ | refine W.s_forR2 ?_ | refine W.s_forR3 ?_ | refine W.s_forZ ?_ | refine W.s_forE ?_
  | refine W.e_lcL ?_ | refine W.e_lcR1 ?_ | refine W.e_lcR2 ?_ | refine W.e_lcZ ?_ | refine W.e_lcS ?_ | refine W.t_yes ?_ | refine W.w_gcons ?_ | refine W.w_gnil ?_ | refine W.s_par ?_ | refine W.w_par ?_ | refine W.g_sub ?_ | refine W.e_m1 ?_ | refine W.w_strR ?_ | refine W.w_rAdd ?_ | refine W.w_rSub ?_ | refine W.s_raise ?_ | refine W.s_try ?_ | refine W.e_methS ?_)
local macro_rules | `(tactic| walk_at "w") => `(tactic| first
  | ((with_reducible refine' W.w_I ?wh ?wq); (case wh => walk_at "c"))
  | ((with_reducible refine' W.w_ixL (n := 0) ?wh ?we ?wq); (case wh => walk_at "f"); (case we => walk_at "a"))
  | ((with_reducible refine' W.w_ixT (n := 0) ?wh ?we ?wq); (case wh => walk_at "f"); (case we => walk_at "a"))
  | ((with_reducible refine' W.w_lenL ?wh ?wq); (case wh => walk_at "f"))
  | ((with_reducible refine' W.w_lenT ?wh ?wq); (case wh => walk_at "f"))
  | ((with_reducible refine' W.w_lenS ?wh ?wq); (case wh => walk_at "n"))
  | ((with_reducible refine' W.w_app ?wh ?we ?wq); (case wh => walk_at "f"); (case we => walk_at "n"))
  | ((with_reducible refine' W.w_meth ?wh ?we ?wq); (case wh => walk_at "f"); (case we => first | assumption | rfl))
  | ((with_reducible refine' W.w_ixLTl ?wh ?we ?wq); (case wh => walk_at "f"); (case we => walk_at "a"))
  | ((with_reducible refine' W.w_ixLTt ?wh ?we ?wq); (case wh => walk_at "f"); (case we => walk_at "a"))
  | ((with_reducible refine' W.w_addS ?wh ?wq); (case wh => walk_at "n"))
  | ((with_reducible refine' W.w_set ?wh ?we ?wq); (case wh => walk_at "f"); (case we => walk_at "a"))
  | ((with_reducible refine' W.w_tup ?wh ?we ?wq); (case wh => walk_at "f"); (case we => first | assumption | rfl))
  | ((with_reducible refine' W.w_slS ?wh ?wq); (case wh => walk_at "n"))
  | ((with_reducible refine' W.w_rApp ?wh ?we ?wq); (case wh => walk_at "f"); (case we => walk_at "n"))
  | ((with_reducible refine' W.w_newL ?wh ?wq); (case wh => walk_at "n"))
  | ((with_reducible refine' W.w_newT ?wh ?wq); (case wh => walk_at "n"))
  | ((with_reducible refine' W.w_listL ?wh ?wq); (case wh => walk_at "f"))
  | ((with_reducible refine' W.w_tupL ?wh ?wq); (case wh => walk_at "f"))
  | ((with_reducible refine' W.w_slL ?wh ?wq); (case wh => walk_at "f"))
  | ((with_reducible refine' W.w_cat ?wh ?wf ?we ?wq); (case wh => walk_at "f"); (case wf => walk_at "f"); (case we => walk_at "n"))
  | ((with_reducible refine' W.w_ext ?wh ?wf ?we ?wq); (case wh => walk_at "f"); (case wf => walk_at "f"); (case we => walk_at "n"))
  | ((with_reducible refine' W.w_recv ?wh ?wq); (case wh => walk_at "f"))
  | ((with_reducible refine' W.w_isi1 ?wh ?we ?wq); (case wh => assumption); (case we => decide +kernel))
  | ((with_reducible refine' W.w_isi0 ?wh ?we ?wq); (case wh => assumption); (case we => decide +kernel))
  | ((with_reducible refine' W.w_isiT10 ?wh ?wf ?we ?wg ?wq); (case wh => assumption); (case wf => walk_at "f"); (case we => decide +kernel); (case wg => decide +kernel))
  | ((with_reducible refine' W.w_isiT01 ?wh ?wf ?we ?wg ?wq); (case wh => assumption); (case wf => walk_at "f"); (case we => decide +kernel); (case wg => decide +kernel))
  | ((with_reducible refine' W.w_isiT00 ?wh ?wf ?we ?wg ?wq); (case wh => assumption); (case wf => walk_at "f"); (case we => decide +kernel); (case wg => decide +kernel))
  | ((with_reducible refine' W.w_ins ?wh ?we ?wf ?wq); (case wh => walk_at "f"); (case we => walk_at "n"); (case wf => walk_at "c"))
  | ((with_reducible refine' W.w_unl ?wh ?we ?wq); (case wh => walk_at "f"); (case we => first | assumption | rfl))
  | ((with_reducible refine' W.ite_T ?_))
  | ((with_reducible refine' W.ite_F ?_))
  | ((with_reducible refine' W.ite_nT ?_))
  | ((with_reducible refine' W.ite_nF ?_))
  | ((with_reducible refine' W.ite_self ?_))
  | ((with_reducible refine' W.ite_nself ?_))
  | ((with_reducible refine' W.ite_tf ?_))
  | ((with_reducible refine' W.ite_ft ?_))
  | ((with_reducible refine' W.ite_ntf ?_))
  | ((with_reducible refine' W.ite_nft ?_))
  | ((with_reducible refine' And.intro ?wl ?wq); (case wl => rfl)))
local macro_rules | `(tactic| walk_at "i") => `(tactic| try (dsimp only [L2.cxOf, L2.wipe, List.map, List.set]))
local macro_rules | `(tactic| walk_at "s") => `(tactic| first | walk_at "v" | walk_at "e" | walk_at "w")
local macro_rules | `(tactic| walk_at "r") => `(tactic| repeat walk_at "s")

namespace My
open PySem L2 W
variable {P : Program} {w : World} {K : PySem.W.Frag} {mg : Str → Option Value} {base : Heap} {A : Adr}
/-- a record written: a new list -/
def sp_wr (K : PySem.W.Frag) : Sp := fun vs H Q _ => ∃ (a : Addr) (ds : List Int), vs = [.ref a] ∧ H a = some (.lst (ds.map V.int)) ∧ ds.length ≤ 1000000 ∧ ∀ p H', H p = none → Keep [] H H' → H' p = some (.lst ((My.rec ds).map V.int)) → Q (.ref p) H'
theorem lt60 {n : Nat} (h : n ≤ 1000000) : n < 128 ^ 60 := Nat.lt_of_le_of_lt h (by decide)
theorem wn_len3 {n : Nat} (h : n ≤ 1000000) : (wn n).length ≤ 3 := wn_len 2 n (by omega)
theorem ok_write_record (e : Env K mg A) : FnOk P w K mg base CX0 2 A.f_write_record A.d_write_record ["data"] (sp_wr K) := by
  have G_checksum := ok_checksum (P := P) (w := w) (base := base) e
  have G_write_number := ok_write_number (P := P) (w := w) (base := base) e
  refine e.F_write_record.ok sc_write_record (fun vs H Q E h => ?_) (fun cdv AA outer s H vs Q E hr h => ?_)
  · obtain ⟨a, ds, rfl, _⟩ := h
    rfl
  · obtain ⟨a, ds, rfl, ha, hl, q⟩ := h
    refine ⟨_, (pss_cons (ps_set (i := 1) sc_write_record.nd rfl (Or.inl rfl) (pe_call G_checksum (hr.mono (by omega)) (by rfl) e.m_checksum e.k_checksum e.b_checksum .nil pass0 (pa_cons (pv 0) pa_nil)))
    (pss_cons (ps_set (i := 2) sc_write_record.nd rfl (Or.inl rfl) (pe_lst (pa_cons (pe_op op_fdiv (pv 1) pe_int) (pa_cons (pe_op op_mod (pe_op op_fdiv (pv 1) pe_int) pe_int) (pa_cons (pe_op op_mod (pe_op op_fdiv (pv 1) pe_int) pe_int) (pa_cons (pe_op op_mod (pv 1) pe_int) pa_nil))))))
    (pss_one (ps_ret (pe_op op_cat (pe_op op_cat (pe_call G_write_number (hr.mono (by omega)) (by rfl) e.m_write_number e.k_write_number e.b_write_number .nil pass0 (pa_cons (pe_callB (call_lenLK (K := K)) (by rfl) e.n_len (by decide +kernel) (pa_cons (pv 0) pa_nil)) pa_nil)) (pe_callTy (call_listLK (K := K)) (by rfl) e.n_list (by decide +kernel) (pa_cons (pv 0) pa_nil))) (pv 2)))))), ?_⟩
    refine enter (st_write_record _) ?_
    walk_at "i"
    walk_at "r"
    refine ⟨a, ds, rfl, ha, ?_⟩
    have hr := ck_rng ds
    have hwl := wn_len3 hl
    walk_at "r"
    intro t H1 nt k1 ht
    walk_at "r"
    refine ⟨ds.length, by rw [List.length_map]; rfl, lt60 hl, fun n H2 nn k2 hn => ?_⟩
    walk_at "r"
    intro c H3 nc k3 hc
    walk_at "r"
    intro b H4 nb k4 hb
    have ht4 := (k2.trans (k3.trans k4)).get ht (by simp)
    walk_at "r"
    intro r H5 nr k5 hr5
    walk_at "r"
    refine q r H5 ?_ (k1.trans (k2.trans (k3.trans (k4.trans k5)))) ?_
    · exact (k1.trans (k2.trans (k3.trans k4))).free nr (by simp)
    · rw [hr5]
      unfold My.rec tl4
      simp only [List.map_append, List.map_cons, List.map_nil]
def optV (H : Hp) : Option (Nat × Int) → V → Prop
  | none, v => v = .non
  | some (s, n), v => ∃ t, v = .ref t ∧ H t = some (.tup [.int (s : Int), .int n])
/-- the size that stands at start: where it ends, and it -/
def rsz (ds : List Int) (s : Nat) : Option (Nat × Int) := (rn 60 ((ds.drop s).take 60) 0 0 1).map fun z => (s + z.1, z.2)
def sp_size (K : PySem.W.Frag) : Sp := fun vs H Q _ => ∃ (a : Addr) (ds : List Int) (s : Nat), vs = [.ref a, .int (s : Int)] ∧ H a = some (.lst (ds.map V.int)) ∧ (∀ v H', Keep [] H H' → optV H' (rsz ds s) v → Q v H')
theorem ok__read_size (e : Env K mg A) : FnOk P w K mg base CX0 3 A.f__read_size A.d__read_size ["data", "start"] (sp_size K) := by
  have G_Reader_read_number := ok_Reader_read_number (P := P) (w := w) (base := base) e
  have G_Reader___init__ := ok_Reader___init__ (P := P) (w := w) (base := base) e
  refine e.F__read_size.ok sc__read_size (fun vs H Q E h => ?_) (fun cdv AA outer s H vs Q E hr h => ?_)
  · obtain ⟨a, ds, s, rfl, _⟩ := h
    rfl
  · obtain ⟨a, ds, s, rfl, ha, q⟩ := h
    refine ⟨_, (pss_cons (ps_set (i := 2) sc__read_size.nd rfl (Or.inl rfl) (pe_make e.M_Reader G_Reader___init__ (hr.mono (by omega)) (by rfl) e.m_Reader e.b_Reader___init__ .nil pass0 (pa_cons (pe_slice (sl_listK (K := K)) (pv 0) (po_some (pv 1)) (po_some (pe_op op_add (pv 1) pe_int))) pa_nil)))
    (pss_cons (ps_try1 (K := K) rfl rfl ⟨by rfl, by decide, .inl e.m_DamagedPacket⟩ takes0 (fun W pn xe tk po => (pss_one (ps_set (i := 3) sc__read_size.nd rfl (Or.inl rfl) (pe_meth0S (pv 2) e.c_Reader e.h_Reader_read_number G_Reader_read_number (hr.mono (by omega)) e.b_Reader_read_number (fun σ => passAt tk σ))))) (fun a oe cls d pn _ _ => (pss_one (ps_ret pe_non))))
    (pss_one (ps_ret (pe_tup (pa_cons (pe_op op_add (pv 1) (pe_fldK (K := K) (pv 2) rfl)) (pa_cons (pv 3) pa_nil))))))), ?_⟩
    refine enter (st__read_size _ _) ?_
    walk_at "i"
    walk_at "r"
    intro l H1 nl k1 hl
    have es : cutV (ds.map V.int) (some (s : Int)) (some ((s : Int) + 60)) = ((ds.drop s).take 60).map V.int := by
      rw [show (s : Int) + 60 = ((s + 60 : Nat) : Int) by omega, cutV_ne, show s + 60 - s = 60 by omega, ← List.map_drop, ← List.map_take]
    rw [es] at hl
    walk_at "r"
    intro r dx H2 nr k2 hr2
    refine ⟨r, dx, l, (ds.drop s).take 60, rfl, hr2, k2.get hl (by simp), fun d H3 nd k3 R3 => ⟨rfl, ?_⟩⟩
    have k13 : Keep [] H H3 := k1.trans (k2.mut nr k3)
    have nl1 : H r = none := k1.free nr (by simp)
    have hr3 := R3.1
    have hlk : (rdF d 0).lookup ("read_number" : Str) = none := lkn (by decide +kernel) (by decide +kernel)
    walk_at "r"
    refine ⟨r, dx, d, (ds.drop s).take 60, 0, rfl, R3, fun i n hn H4 k4 R4 => ?_, fun hn H4 p' k4 R4 => ?_⟩
    · rw [List.drop_zero] at hn
      have hr4 := R4.1
      rw [Nat.zero_add] at hr4
      have k14 : Keep [] H H4 := k13.mut nl1 k4
      walk_at "r"
      refine w_getF hr4 e.c_Reader e.x_Reader_at lk2 ?_
      walk_at "r"
      intro t H5 nt k5 ht
      walk_at "r"
      refine q _ H5 (k14.trans k5) ?_
      unfold rsz
      rw [hn]
      exact ⟨t, rfl, by rw [ht]; rfl⟩
    · rw [List.drop_zero] at hn
      refine w_only (exm_D e) (fun x _ => ?_)
      have k14 : Keep [] H H4 := k13.mut nl1 k4
      walk_at "r"
      refine q _ H4 k14 ?_
      unfold rsz
      rw [hn]
      rfl
def mid (ds : List Int) (b n : Nat) : List Int := (ds.drop b).take n
def Gd (ds : List Int) (b n : Nat) : Prop := b + n + 4 ≤ ds.length ∧ tl4 (ck (mid ds b n)) = mid ds (b + n) 4
def Bd (ds : List Int) (s : Nat) : Prop := ∀ b n : Nat, rsz ds s = some (b, (n : Int)) → ¬ Gd ds b n
/-- from s on: these records, and where they end -/
inductive Rr (ds : List Int) : Nat → List (List Int) → Nat → Prop
  | stop {s : Nat} : Bd ds s → Rr ds s [] s
  | more {s b n : Nat} {rs : List (List Int)} {s' : Nat} : rsz ds s = some (b, (n : Int)) → Gd ds b n → Rr ds (b + n + 4) rs s' → Rr ds s (mid ds b n :: rs) s'
theorem rn_nn : ∀ (f : Nat) (l : List Int) (i : Nat) (t c : Int) (j : Nat) (n : Int), 0 ≤ t → 0 ≤ c → rn f l i t c = some (j, n) → 0 ≤ n
  | 0, _, _, _, _, _, _, _, _, h => by cases h
  | _ + 1, [], _, _, _, _, _, _, _, h => by cases h
  | f + 1, b :: r, i, t, c, j, n, ht, hc, h => by
    have hm : 0 ≤ b % 128 * c := Int.mul_nonneg (Int.emod_nonneg _ (by decide)) hc
    have h2 : (if b < 128 then (if b = 0 ∧ 0 < i then none else some (i + 1, t + b % 128 * c)) else rn f r (i + 1) (t + b % 128 * c) (c * 128)) = some (j, n) := h
    split at h2
    · split at h2
      · cases h2
      · cases h2; omega
    · exact rn_nn f r _ _ _ j n (by omega) (by omega) h2
theorem rsz_nn {ds : List Int} {s b : Nat} {n : Int} (h : rsz ds s = some (b, n)) : 0 ≤ n := by
  unfold rsz at h
  cases hr : rn 60 ((ds.drop s).take 60) 0 0 1 with
  | none => rw [hr] at h; cases h
  | some z =>
    rw [hr] at h
    cases h
    exact rn_nn _ _ _ _ _ z.1 z.2 (by decide) (by decide) hr
theorem w_neL {H : Hp} {Q : VK} {a b : Addr} {xs ys : List Int} (ha : H a = some (.lst (xs.map V.int))) (hb : H b = some (.lst (ys.map V.int))) (q : Q (.bl (!decide (xs = ys))) H) : rNeD K (.ref a) (.ref b) H Q :=
  ⟨.list (xs.map .int), .list (ys.map .int), (Da.lst ha (DaL.ints xs)).dp, (Da.lst hb (DaL.ints ys)).dp, shp_ints xs, shp_ints ys, by rw [eqv_ints]; exact q⟩
/-- lists of ints on a heap -/
def Lsts (H : Hp) (vs : List V) (rs : List (List Int)) : Prop := Paired (fun v x => ∃ t, v = V.ref t ∧ H t = some (.lst (x.map V.int))) vs rs
theorem Lsts.mono {H H' : Hp} {vs : List V} {rs : List (List Int)} (h : Lsts H vs rs) (k : Keep [] H H') : Lsts H' vs rs := Paired.mapP h fun _ _ ⟨t, e, q⟩ => ⟨t, e, k.get q (by simp)⟩
theorem Lsts.mut {H H' : Hp} {p : Addr} : ∀ {vs : List V} {rs : List (List Int)}, H p = some (.lst vs) → Keep [p] H H' → Lsts H vs rs → Lsts H' vs rs := by
  intro vs rs hp k h
  have n : vs ≠ [] → ∀ x : List Int, vs ≠ x.map V.int := by
    intro hv x e
    unfold Lsts at h
    cases h with
    | nil => exact hv rfl
    | cons hd _ =>
      obtain ⟨t, rfl, _⟩ := hd
      cases x with
      | nil => cases e
      | cons y r => cases e
  by_cases hv : vs = []
  · subst hv
    unfold Lsts at h ⊢
    cases h
    exact .nil
  · exact Paired.mapP h fun _ _ ⟨t, e, q⟩ => ⟨t, e, k.get q (by
      intro z; simp at z; subst z; rw [hp] at q; cases q; exact n hv _ rfl)⟩
theorem Rr.bad {ds : List Int} {s s' : Nat} {rs : List (List Int)} (h : Rr ds s rs s') (n : Bd ds s) : rs = [] ∧ s' = s := by
  cases h with
  | stop _ => exact ⟨rfl, rfl⟩
  | more h1 h2 _ => exact absurd h2 (n _ _ h1)
theorem Rr.good {ds : List Int} {s s' b n : Nat} {rs : List (List Int)} (h : Rr ds s rs s') (h1 : rsz ds s = some (b, (n : Int))) (h2 : Gd ds b n) : ∃ r, rs = mid ds b n :: r ∧ Rr ds (b + n + 4) r s' := by
  cases h with
  | stop z => exact absurd h2 (z _ _ h1)
  | more h3 h4 r =>
    rw [h1] at h3
    cases h3
    exact ⟨_, rfl, r⟩
theorem rec_last (r : List Int) : (My.rec r).drop ((My.rec r).length - 4) = tl4 (ck r) := by
  have e : (My.rec r).length - 4 = (wn r.length ++ r).length := by rw [rec_len]; simp
  rw [e]; unfold My.rec; rw [List.drop_left]
def sp_rr (K : PySem.W.Frag) : Sp := fun vs H Q _ => ∃ (a : Addr) (ds : List Int) (rs : List (List Int)) (s : Nat), vs = [.ref a] ∧ H a = some (.lst (ds.map V.int)) ∧ ds.length ≤ 1000000 ∧ Rr ds 0 rs s ∧ rs.length ≤ 1000 ∧
  ∀ t p us H', H t = none → Keep [] H H' → H' t = some (.tup [.ref p, .int (s : Int)]) → H' p = some (.lst us) → Lsts H' us rs → Q (.ref t) H'
theorem ok_read_records (e : Env K mg A) : FnOk P w K mg base CX0 4 A.f_read_records A.d_read_records ["data"] (sp_rr K) := by
  have G__read_size := ok__read_size (P := P) (w := w) (base := base) e
  have G_write_record := ok_write_record (P := P) (w := w) (base := base) e
  refine e.F_read_records.ok sc_read_records (fun vs H Q E h => ?_) (fun cdv AA outer s H vs Q E hr h => ?_)
  · obtain ⟨a, ds, rs, s, rfl, _⟩ := h
    rfl
  · obtain ⟨a, ds, rs, s', rfl, ha, hl, hR, hrs, q⟩ := h
    refine ⟨_, (pss_cons (ps_set (i := 1) sc_read_records.nd rfl (Or.inl rfl) (pe_lst pa_nil))
    (pss_cons (ps_set (i := 2) sc_read_records.nd rfl (Or.inl rfl) pe_int)
    (pss_cons (ps_set (i := 3) sc_read_records.nd rfl (Or.inl rfl) (pe_call G__read_size (hr.mono (by omega)) (by rfl) e.m__read_size e.k__read_size e.b__read_size .nil pass0 (pa_cons (pv 0) (pa_cons (pv 2) pa_nil))))
    (pss_cons (ps_while PassesOwn.never (pt_cmpR op_isNot (pv 3) pe_non (nomark _)) (pss_cons (ps_asg (pv 3) (pg_tupK (K := K) (n := 2) rfl (pgs_cons (pg_name (i := 4) sc_read_records.nd rfl (Or.inl rfl)) (pgs_cons (pg_name (i := 5) sc_read_records.nd rfl (Or.inl rfl)) pgs_nil))))
    (pss_cons (ps_set (i := 6) sc_read_records.nd rfl (Or.inl rfl) (pe_slice (sl_listK (K := K)) (pv 0) (po_some (pv 4)) (po_some (pe_op op_add (pv 4) (pv 5)))))
    (pss_cons (ps_set (i := 7) sc_read_records.nd rfl (Or.inl rfl) (pe_op op_add (pe_op op_add (pv 4) (pv 5)) pe_int))
    (pss_cons (ps_if (PW.pt (pw_or (pt_cmpR op_gt (pv 7) (pe_callB (call_lenLK (K := K)) (by rfl) e.n_len (by decide +kernel) (pa_cons (pv 0) pa_nil)) (nomark _)) (pw_or1 (pt_cmpR (op_neDK hr.units (K := K)) (pe_slice (sl_listK (K := K)) (pe_call G_write_record (hr.mono (by omega)) (by rfl) e.m_write_record e.k_write_record e.b_write_record .nil pass0 (pa_cons (pv 6) pa_nil)) (po_some (pe_un un_neg pe_int)) po_none) (pe_slice (sl_listK (K := K)) (pv 0) (po_some (pe_op op_sub (pv 7) pe_int)) (po_some (pv 7))) (nomark _))))) (pss_one ps_break) pss_nil)
    (pss_cons (ps_expr (pe_bmK (K := K) PySem.F.plainAttrs_list PySem.F.slot_list_append PySem.F.type_list_append mt_append (pv 1) (pa_cons (pv 6) pa_nil)))
    (pss_cons (ps_set (i := 2) sc_read_records.nd rfl (Or.inl rfl) (pv 7))
    (pss_one (ps_set (i := 3) sc_read_records.nd rfl (Or.inl rfl) (pe_call G__read_size (hr.mono (by omega)) (by rfl) e.m__read_size e.k__read_size e.b__read_size .nil pass0 (pa_cons (pv 0) (pa_cons (pv 2) pa_nil))))))))))))
    (pss_one (ps_ret (pe_tup (pa_cons (pv 1) (pa_cons (pv 2) pa_nil))))))))), ?_⟩
    refine enter (st_read_records _) ?_
    walk_at "i"
    walk_at "r"
    intro p H1 np k1 hp
    walk_at "r"
    refine ⟨a, ds, 0, rfl, k1.get ha (by simp), fun v H2 k2 hv => ?_⟩
    walk_at "r"
    refine while_ (fun m σ H' => ∃ (st : Nat) (us : List V) (done rest : List (List Int)) (v : V) (v4 v5 v6 v7 : Option V), σ = [some (.ref a), some (.ref p), some (.int (st : Int)), some v, v4, v5, v6, v7] ∧ Keep [] H H' ∧ H' p = some (.lst us) ∧ Lsts H' us done ∧
        rs = done ++ rest ∧ Rr ds st rest s' ∧ optV H' (rsz ds st) v ∧ m = rest.length) rs.length ⟨0, [], [], rs, v, _, _, _, _, rfl, k1.trans k2, k2.get hp (by simp), .nil, rfl, hR, hv, rfl⟩ ?_
    rintro m σ H3 ⟨st, us, done, rest, v, v4, v5, v6, v7, rfl, k3, hp3, hL, hrs2, hRr, hv, hm⟩
    have ha3 := k3.get ha (by simp)
    have fin : ∀ (H' : Hp), Bd ds st → Keep [] H3 H' → ∀ (t : Addr) (H5 : Hp), H' t = none → Keep [] H' H5 → H5 t = some (.tup [V.ref p, V.int (st : Int)]) → Q (.ref t) H5 := by
      intro H' hB k t H5 nt k5 ht
      obtain ⟨rfl, rfl⟩ := hRr.bad hB
      rw [List.append_nil] at hrs2
      subst hrs2
      have k35 := k.trans k5
      exact q t p us H5 ((k3.trans k).free nt (by simp)) (k3.trans k35) ht (k35.get hp3 (by simp)) (hL.mono k35)
    cases hz : rsz ds st with
    | none =>
      rw [hz] at hv
      have hv2 : v = .non := hv
      subst hv2
      walk_at "r"
      exact fin H3 (fun b n h => by rw [hz] at h; cases h) Keep.refl
    | some z =>
      obtain ⟨b, n0⟩ := z
      obtain ⟨n, rfl⟩ := Int.eq_ofNat_of_zero_le (rsz_nn hz)
      rw [hz] at hv
      obtain ⟨t, rfl, ht⟩ := hv
      walk_at "r"
      refine turn ?_
      walk_at "r"
      rw [show (b : Int) + (n : Int) = ((b + n : Nat) : Int) by omega, cutV_ne, show b + n - b = n by omega, ← List.map_drop, ← List.map_take]
      intro r H4 nr k4 hr4
      have hr4' : H4 r = some (.lst ((mid ds b n).map V.int)) := hr4
      walk_at "r"
      rw [List.length_map]
      have nG : ¬ Gd ds b n → Bd ds st := fun g b' n' h => by rw [hz] at h; cases h; exact g
      refine ite_dec (fun hlen => ?_) (fun hlen => ?_)
      · walk_at "r"
        exact fin H4 (nG (fun g => by have := g.1; omega)) k4
      · walk_at "r"
        refine ⟨r, mid ds b n, rfl, hr4', by unfold mid; rw [List.length_take, List.length_drop]; omega, fun x H5 nx k5 hx => ?_⟩
        walk_at "r"
        rw [show -(4 : Int) = -((4 : Nat) : Int) from rfl, cutV_last _ 4 (by rw [List.length_map, rec_len]; omega) (by omega), List.length_map, ← List.map_drop, rec_last]
        intro y H6 ny k6 hy
        walk_at "r"
        rw [show (b : Int) + (n : Int) + 4 - 4 = ((b + n : Nat) : Int) by omega, show (b : Int) + (n : Int) + 4 = ((b + n + 4 : Nat) : Int) by omega, cutV_ne, show b + n + 4 - (b + n) = 4 by omega, ← List.map_drop, ← List.map_take]
        intro z H7 nz k7 hz7
        have hz7' : H7 z = some (.lst ((mid ds (b + n) 4).map V.int)) := hz7
        refine w_neL (k7.get hy (by simp)) hz7' ?_
        have k47 := k4.trans (k5.trans (k6.trans k7))
        walk_at "r"
        refine ite_ndec (fun hne => ?_) (fun hne => ?_)
        · walk_at "r"
          exact fin H7 (nG (fun g => hne g.2)) k47
        · obtain ⟨rest', rfl, hR2⟩ := hRr.good hz ⟨by omega, hne⟩
          have hp7 := k47.get hp3 (by simp)
          have hLl := Paired.length hL
          have hrl := congrArg List.length hrs2
          rw [List.length_append] at hrl
          walk_at "r"
          intro H8 k8 h8
          walk_at "r"
          refine ⟨a, ds, b + n + 4, by simp, ?_, fun v H9 k9 hv9 => ?_⟩
          · have := (k3.trans k47).get ha (by simp)
            exact ((k3.trans k47).mut np k8).get ha (by simp)
          walk_at "r"
          refine ⟨rest'.length, by simp [hm], b + n + 4, _, done ++ [mid ds b n], rest', v, _, _, _, _, rfl, ((k3.trans k47).mut np k8).trans k9, k9.get h8 (by simp), ?_, by rw [hrs2]; simp, hR2, hv9, rfl⟩
          have hr8 : H8 r = some (.lst ((mid ds b n).map V.int)) := k8.get ((k5.trans (k6.trans k7)).get hr4' (by simp)) (by
            intro z; simp at z; subst z; rw [hp3] at nr; cases nr)
          exact Lsts.mono (Paired.snoc (Lsts.mut hp7 k8 (hL.mono k47)) ⟨r, rfl, hr8⟩) k9
end My

end
section
set_option maxHeartbeats 4000000
/-! what is no record, records in a row: plain Lean -/
namespace My
open W PySem L2
theorem rn_take : ∀ (f : Nat) (l : List Int) (i : Nat) (t c : Int), rn f (l.take f) i t c = rn f l i t c
  | 0, _, _, _, _ => rfl
  | _ + 1, [], _, _, _ => rfl
  | f + 1, b :: r, i, t, c => by
    show (if b < 128 then (if b = 0 ∧ 0 < i then none else some (i + 1, t + b % 128 * c)) else rn f (r.take f) (i + 1) (t + b % 128 * c) (c * 128)) = (if b < 128 then _ else rn f r _ _ _)
    rw [rn_take f r]
theorem rsz_app (x l : List Int) : rsz (x ++ l) x.length = (rn 60 l 0 0 1).map fun z => (x.length + z.1, z.2) := by
  unfold rsz; rw [List.drop_left, rn_take]
theorem mid_app (x d y : List Int) : mid (x ++ d ++ y) x.length d.length = d := by
  unfold mid; rw [List.append_assoc, List.drop_left, List.take_left]
/-- no record stands here -/
def Bad (l : List Int) : Prop := ∀ x, Bd (x ++ l) x.length
theorem Bad.none {l : List Int} (h : rn 60 l 0 0 1 = none) : Bad l := fun x b n e => by rw [rsz_app, h] at e; cases e
theorem rsz_rec (x d y : List Int) (h : d.length ≤ 1000000) : rsz (x ++ (wn d.length ++ y)) x.length = some (x.length + (wn d.length).length, (d.length : Int)) := by
  have := wn_len3 h
  rw [rsz_app, rn_wn 60 d.length y 0 0 1 (by omega) (.inr rfl)]
  simp
theorem mid_rec (x d t y : List Int) : mid (x ++ (wn d.length ++ d ++ t ++ y)) (x.length + (wn d.length).length) d.length = d := by
  have := mid_app (x ++ wn d.length) d (t ++ y)
  simpa [List.length_append] using this
theorem mid_tail (x d t y : List Int) (ht : t.length = 4) : mid (x ++ (wn d.length ++ d ++ t ++ y)) (x.length + (wn d.length).length + d.length) 4 = t := by
  have := mid_app (x ++ wn d.length ++ d) t y
  rw [ht] at this
  simpa [List.length_append, Nat.add_assoc] using this
theorem bad_tail (d t y : List Int) (ht : t.length = 4) (n : tl4 (ck d) ≠ t) (hd : d.length ≤ 1000000) : Bad (wn d.length ++ d ++ t ++ y) := fun x b m e g => by
  have h1 := rsz_rec x d (d ++ t ++ y) hd
  have e2 : x ++ (wn d.length ++ (d ++ t ++ y)) = x ++ (wn d.length ++ d ++ t ++ y) := by simp
  rw [e2, e] at h1
  have hb : b = x.length + (wn d.length).length := by cases h1; rfl
  have hm : m = d.length := by
    have : (m : Int) = (d.length : Int) := by cases h1; rfl
    omega
  subst hb hm
  have := g.2
  rw [mid_rec, mid_tail x d t y ht] at this
  exact n this
theorem bad_zero (l y : List Int) (h : ∀ b ∈ l, 128 ≤ b) (n : l ≠ []) : Bad (l ++ 0 :: y) := Bad.none (rn_zero 60 l y 0 0 1 h (.inr n))
theorem bad_nil : Bad [] := Bad.none rfl
theorem bad_take (d : List Int) (j : Nat) (hj : j < (My.rec d).length) (hd : d.length ≤ 1000000) : Bad ((My.rec d).take j) := by
  by_cases h : j < (wn d.length).length
  · refine Bad.none (rn_on _ _ _ _ _ fun b hb => ?_)
    have e : (My.rec d).take j = ((wn d.length).take ((wn d.length).length - 1)).take j := by
      unfold My.rec
      rw [List.append_assoc, List.take_append_of_le_length (by omega), List.take_take, Nat.min_eq_left (by omega)]
    rw [e] at hb
    exact wn_init _ _ (Nat.le_refl _) b (List.mem_of_mem_take hb)
  · intro x b m e g
    have e1 : (My.rec d).take j = wn d.length ++ (d ++ tl4 (ck d)).take (j - (wn d.length).length) := by
      unfold My.rec
      rw [List.append_assoc, List.take_append, List.take_of_length_le (by omega)]
    have h1 := rsz_rec x d ((d ++ tl4 (ck d)).take (j - (wn d.length).length)) hd
    rw [← e1, e] at h1
    have hb : b = x.length + (wn d.length).length := by cases h1; rfl
    have hm : m = d.length := by
      have : (m : Int) = (d.length : Int) := by cases h1; rfl
      omega
    have := g.1
    rw [List.length_append, List.length_take] at this
    rw [rec_len] at hj this
    omega
/-- records in a row, then none -/
theorem Rr.of : ∀ (rs : List (List Int)) (x l : List Int), (∀ d ∈ rs, d.length ≤ 1000000) → Bad l → Rr (x ++ (rs.flatMap My.rec ++ l)) x.length rs (x.length + (rs.flatMap My.rec).length)
  | [], x, l, _, h => by
    have e : x.length + (List.flatMap My.rec []).length = x.length := by simp
    rw [e]
    exact .stop (h x)
  | d :: rs, x, l, h0, h => by
    have ih := Rr.of rs (x ++ My.rec d) l (fun z hz => h0 z (by simp [hz])) h
    have hd := h0 d (by simp)
    have e1 : x ++ ((d :: rs).flatMap My.rec ++ l) = x ++ (wn d.length ++ d ++ tl4 (ck d) ++ (rs.flatMap My.rec ++ l)) := by simp [My.rec]
    have e2 : x ++ My.rec d ++ (rs.flatMap My.rec ++ l) = x ++ (wn d.length ++ d ++ tl4 (ck d) ++ (rs.flatMap My.rec ++ l)) := by simp [My.rec]
    have e3 : x.length + ((d :: rs).flatMap My.rec).length = (x ++ My.rec d).length + (rs.flatMap My.rec).length := by simp [Nat.add_assoc]
    have e4 : (x ++ My.rec d).length = x.length + (wn d.length).length + d.length + 4 := by rw [List.length_append, rec_len]; omega
    rw [e2] at ih
    rw [e1, e3]
    have m1 := mid_rec x d (tl4 (ck d)) (rs.flatMap My.rec ++ l)
    have m2 := mid_tail x d (tl4 (ck d)) (rs.flatMap My.rec ++ l) rfl
    have s1 := rsz_rec x d (d ++ tl4 (ck d) ++ (rs.flatMap My.rec ++ l)) hd
    have e5 : x ++ (wn d.length ++ (d ++ tl4 (ck d) ++ (rs.flatMap My.rec ++ l))) = x ++ (wn d.length ++ d ++ tl4 (ck d) ++ (rs.flatMap My.rec ++ l)) := by simp
    rw [e5] at s1
    generalize hds : x ++ (wn d.length ++ d ++ tl4 (ck d) ++ (rs.flatMap My.rec ++ l)) = ds at ih m1 m2 s1
    have g : Gd ds (x.length + (wn d.length).length) d.length := ⟨by
      rw [← hds]; simp [tl4]; omega, by rw [m1, m2]⟩
    rw [e4] at ih ⊢
    have := Rr.more s1 g ih
    rw [m1] at this
    exact this
/-- where records in a row start, and where the last ends -/
def cum (s : Nat) : List (List Int) → List Nat
  | [] => [s]
  | d :: r => s :: cum (s + (My.rec d).length) r
theorem cum_snoc : ∀ (rs : List (List Int)) (s : Nat) (d : List Int), cum s (rs ++ [d]) = cum s rs ++ [s + (rs.flatMap My.rec).length + (My.rec d).length]
  | [], s, d => by simp [cum]
  | x :: r, s, d => by
    show s :: cum _ (r ++ [d]) = s :: (cum _ r ++ _)
    rw [cum_snoc r]
    simp [Nat.add_assoc]
theorem cum_len : ∀ (rs : List (List Int)) (s : Nat), (cum s rs).length = rs.length + 1
  | [], _ => rfl
  | _ :: r, s => by show (cum _ r).length + 1 = _; rw [cum_len r]; rfl
theorem cum_get : ∀ (rs : List (List Int)) (s i : Nat), i ≤ rs.length → (cum s rs)[i]? = some (s + ((rs.take i).flatMap My.rec).length)
  | [], s, i, h => by
    have : i = 0 := by simpa using h
    subst this; simp [cum]
  | d :: r, s, 0, _ => by simp [cum]
  | d :: r, s, i + 1, h => by
    show (cum (s + (My.rec d).length) r)[i]? = _
    rw [cum_get r _ i (by simpa using h)]
    simp [Nat.add_assoc]
theorem cum_big : ∀ (rs : List (List Int)) (s e : Nat), e < s → (cum s rs).filter (fun z => decide (z ≤ e)) = []
  | [], s, e, h => by simp [cum]; omega
  | d :: r, s, e, h => by
    show (s :: cum _ r).filter _ = []
    rw [List.filter_cons, if_neg (by simp; omega)]
    exact cum_big r _ e (by omega)
/-- cut at e: the whole records, then a beginning of one -/
theorem cum_cut : ∀ (rs : List (List Int)) (s e : Nat), s ≤ e → e ≤ s + (rs.flatMap My.rec).length → (∀ d ∈ rs, d.length ≤ 1000000) →
    ∃ c l, c ≤ rs.length ∧ ((cum s rs).filter (fun z => decide (z ≤ e))).length = c + 1 ∧ (rs.flatMap My.rec).take (e - s) = (rs.take c).flatMap My.rec ++ l ∧ Bad l
  | [], s, e, h1, h2, _ => by
    have : e = s := by simp at h2; omega
    subst this
    exact ⟨0, [], by simp, by simp [cum], by simp, bad_nil⟩
  | d :: r, s, e, h1, h2, h0 => by
    have hf : (cum s (d :: r)).filter (fun z => decide (z ≤ e)) = s :: (cum (s + (My.rec d).length) r).filter (fun z => decide (z ≤ e)) := by
      show (s :: cum _ r).filter _ = _
      rw [List.filter_cons, if_pos (by simp; exact h1)]
    by_cases h : s + (My.rec d).length ≤ e
    · obtain ⟨c, l, hc, hl, ht, hb⟩ := cum_cut r (s + (My.rec d).length) e h (by rw [List.flatMap_cons, List.length_append] at h2; omega) (fun z hz => h0 z (by simp [hz]))
      refine ⟨c + 1, l, by simpa using hc, by rw [hf]; simp [hl], ?_, hb⟩
      rw [List.flatMap_cons, List.take_append, List.take_of_length_le (by omega), List.take_succ_cons, List.flatMap_cons, List.append_assoc, show e - s - (My.rec d).length = e - (s + (My.rec d).length) by omega, ht]
    · refine ⟨0, (My.rec d).take (e - s), by simp, by rw [hf, cum_big _ _ _ (by omega)]; rfl, ?_, bad_take d _ (by omega) (h0 d (by simp))⟩
      rw [List.flatMap_cons, List.take_append_of_le_length (by omega)]; simp
theorem take_set (t : List Int) (j : Nat) (z : Int) (hj : j < t.length) (n : t[j]? ≠ some z) : t ≠ t.take j ++ [z] ++ t.drop (j + 1) := fun e => by
  apply n
  rw [e, List.append_assoc, List.getElem?_append_right (by rw [List.length_take]; omega), List.length_take, Nat.min_eq_left (by omega), Nat.sub_self]; rfl
/-- one byte of the sum another -/
theorem bad_sum (d y : List Int) (j : Nat) (z : Int) (hj : j < 4) (n : (tl4 (ck d))[j]? ≠ some z) (hd : d.length ≤ 1000000) :
    Bad ((My.rec d).take ((My.rec d).length - 4 + j) ++ [z] ++ (My.rec d).drop ((My.rec d).length - 4 + j + 1) ++ y) := by
  have e0 : (My.rec d).length - 4 = (wn d.length ++ d).length := by rw [rec_len]; simp
  have e1 : (My.rec d).take ((My.rec d).length - 4 + j) = wn d.length ++ d ++ (tl4 (ck d)).take j := by
    rw [e0]; unfold My.rec; rw [List.take_append, List.take_of_length_le (by omega), Nat.add_sub_cancel_left]
  have e2 : (My.rec d).drop ((My.rec d).length - 4 + j + 1) = (tl4 (ck d)).drop (j + 1) := by
    rw [e0, Nat.add_assoc]; unfold My.rec; rw [List.drop_append, List.drop_of_length_le (by omega), Nat.add_sub_cancel_left]; rfl
  rw [e1, e2]
  have := bad_tail d ((tl4 (ck d)).take j ++ [z] ++ (tl4 (ck d)).drop (j + 1)) y (by simp [tl4]; omega) (take_set _ j z (by simpa [tl4] using hj) n) hd
  simpa using this
/-- one byte of the data another -/
theorem bad_data (d y : List Int) (j : Nat) (z : Int) (hj : j < d.length) (n : d[j]? ≠ some z) (hz : 0 ≤ z ∧ z < 256) (hb : ∀ b ∈ d, 0 ≤ b ∧ b < 256) (hd : d.length ≤ 1000000) :
    Bad ((My.rec d).take ((wn d.length).length + j) ++ [z] ++ (My.rec d).drop ((wn d.length).length + j + 1) ++ y) := by
  have e1 : (My.rec d).take ((wn d.length).length + j) = wn d.length ++ d.take j := by
    unfold My.rec; rw [List.append_assoc, List.take_append, List.take_of_length_le (by omega), Nat.add_sub_cancel_left, List.take_append_of_le_length (by omega)]
  have e2 : (My.rec d).drop ((wn d.length).length + j + 1) = d.drop (j + 1) ++ tl4 (ck d) := by
    unfold My.rec; rw [List.append_assoc, Nat.add_assoc, List.drop_append, List.drop_of_length_le (by omega), Nat.add_sub_cancel_left, List.drop_append_of_le_length (by omega)]; rfl
  rw [e1, e2]
  have hl : (d.take j ++ z :: d.drop (j + 1)).length = d.length := by simp; omega
  have hj2 : d[j]? = some d[j] := List.getElem?_eq_getElem hj
  have hd2 : d = d.take j ++ d[j] :: d.drop (j + 1) := by
    rw [List.getElem_cons_drop, List.take_append_drop]
  have hck : ck (d.take j ++ z :: d.drop (j + 1)) ≠ ck d := by
    have hne : z ≠ d[j] := fun e => n (by rw [hj2, e])
    have := ck_change (d.take j) (d.drop (j + 1)) z d[j] hz (hb _ (List.getElem_mem _)) hne
    rw [← hd2] at this
    exact this
  have := bad_tail (d.take j ++ z :: d.drop (j + 1)) (tl4 (ck d)) y rfl (fun e => hck (tl4_inj (ck_rng _) (ck_rng _) e)) (by rw [hl]; exact hd)
  rw [hl] at this
  simpa using this
/-- a number written with needless bytes -/
theorem bad_long (d y : List Int) (k : Nat) (hd : d.length ≤ 1000000) :
    Bad ((wn d.length).take ((wn d.length).length - 1) ++ ([(wn d.length).getD ((wn d.length).length - 1) 0 + 128] ++ List.replicate k 128 ++ [0]) ++ y) := by
  have hp := wn_pos d.length
  have hl : (wn d.length).getD ((wn d.length).length - 1) 0 ∈ wn d.length := by
    rw [List.getD_eq_getElem?_getD, List.getElem?_eq_getElem (by omega)]; exact List.getElem_mem _
  have h1 := (wn_byte _ _ (Nat.le_refl _) _ hl).1
  have := bad_zero ((wn d.length).take ((wn d.length).length - 1) ++ ([(wn d.length).getD ((wn d.length).length - 1) 0 + 128] ++ List.replicate k 128)) y (fun b hb => by
    rcases List.mem_append.mp hb with z | z
    · exact wn_init _ _ (Nat.le_refl _) b z
    · rcases List.mem_append.mp z with z | z
      · rw [List.mem_singleton] at z; omega
      · have := List.eq_of_mem_replicate z; omega) (by simp)
  simpa using this
end My

end
section
set_option maxHeartbeats 4000000
local macro_rules | `(tactic| walk_at "k") => `(tactic| first
  | assumption
  | exact W.Keep.trans (by assumption) (by assumption)
  | exact And.intro (by grind [W.Keep, W.Kp]) (by grind [W.Keep, W.Kt])
  | grind [W.Keep, W.Kp])
local macro_rules | `(tactic| walk_at "f") => `(tactic| first
  | assumption
  | exact L2.SqL.of (by assumption)
  | exact L2.SqT.of (by assumption)
  | exact L2.SqL.of L2.upd_same
  | exact L2.SqT.of L2.upd_same
  | exact L2.upd_same
  | exact W.carryL (by assumption) (by assumption)
  | exact W.carryL (by assumption) (by walk_at "k")
  | exact W.carryT (by assumption) (by walk_at "k")
  | exact W.carry (by assumption) (by grind [W.Keep, W.Kp])
  | exact L2.SqL.of (W.carry (by assumption) (by grind [W.Keep, W.Kp]))
  | exact L2.SqT.of (W.carry (by assumption) (by grind [W.Keep, W.Kp])))
local macro_rules | `(tactic| walk_at "a") => `(tactic| first
  | assumption
  | rfl)
local macro_rules | `(tactic| walk_at "n") => `(tactic| first
  | assumption
  | exact Nat.zero_le _
  | decide
  | (simp only [List.length_cons, List.length_nil]; decide)
  | omega
  | (simp only [PySem.sizeLine_eq]; omega)
  | (simp only [List.length_map, List.length_append, List.length_cons, List.length_nil, PySem.sizeLine_eq]; omega)
  | (simp only [List.length_map, List.length_append, List.length_cons, List.length_nil, List.length_take, List.length_drop, PySem.sizeLine_eq]; omega)
  | (simp only [List.length_map, List.length_append, List.length_cons, List.length_nil, PySem.sizeLine_eq] at *; omega))
local macro_rules | `(tactic| walk_at "c") => `(tactic| first
  | assumption
  | decide
  | exact And.intro (by decide) (by decide)
  | exact Or.inr (And.intro (by decide) (by decide))
  | exact Or.inl (And.intro (by decide) (by decide))
  | exact And.intro (by decide) (And.intro (by decide) (by decide))
  | exact (show (0 : Int) < _ by decide)
  | exact And.intro (by omega) (by omega)
  | exact Or.inl (And.intro (by omega) (by omega))
  | exact Or.inr (And.intro (by omega) (by omega))
  | exact (show (0 : Int) < _ by omega))
local macro_rules | `(tactic| walk_at "v") => `(tactic| with_reducible first
  | refine W.v0 ?_ | refine W.v1 ?_ | refine W.v2 ?_ | refine W.v3 ?_ | refine W.v4 ?_ | refine W.v5 ?_ | refine W.v6 ?_ | refine W.v7 ?_ | refine W.v8 ?_
  | refine W.v9 ?_ | refine W.v10 ?_ | refine W.v11 ?_ | refine W.v12 ?_ | refine W.v13 ?_ | refine W.v14 ?_ | refine W.v15 ?_ | refine W.v16 ?_ | refine W.v17 ?_
  | refine W.g0 ?_ | refine W.g1 ?_ | refine W.g2 ?_ | refine W.g3 ?_ | refine W.g4 ?_ | refine W.g5 ?_ | refine W.g6 ?_ | refine W.g7 ?_ | refine W.g8 ?_
  | refine W.g9 ?_ | refine W.g10 ?_ | refine W.g11 ?_ | refine W.g12 ?_ | refine W.g13 ?_ | refine W.g14 ?_ | refine W.g15 ?_)
local macro_rules | `(tactic| walk_at "e") => `(tactic| with_reducible first
  | refine W.e_c ?_ | refine W.e_op ?_ | refine W.s_seq ?_ | refine W.s_asg ?_ | refine W.e_CB ?_ | refine W.a_cons ?_ | refine W.a_nil ?_ | refine W.e_call ?_
  | refine W.t_test ?_ | refine W.w_B ?_ | refine W.s_if ?_ | refine W.s_ret ?_ | refine W.s_drop ?_ | refine W.e_un ?_ | refine W.e_fld ?_ | refine W.s_fld ?_
  | refine W.e_meth ?_ | refine W.e_if ?_ | refine W.e_lst ?_ | refine W.e_tup ?_ | refine W.e_sl ?_ | refine W.o_none ?_ | refine W.o_some ?_ | refine W.w_part ?_
  | refine W.e_bm ?_ | refine W.e_bm0 ?_ | refine W.t_B ?_ | refine W.t_and ?_ | refine W.t_or ?_ | refine W.t_not ?_ | refine W.e_andV ?_ | refine W.e_orV ?_ | refine W.e_notV ?_ | refine W.w_BV ?_ | refine W.e_chain ?_
  | refine W.s_aug ?_ | refine W.s_augS ?_ | refine W.s_next ?_ | refine W.s_brk ?_ | refine W.s_cont ?_ | refine W.s_retN ?_ | refine W.s_fa ?_ | refine W.e_make ?_ | refine W.w_make ?_
  | refine W.w_I0 ?_ | refine W.w_U ?_ | refine W.w_aug ?_ | refine W.w_eqI ?_ | refine W.w_neI ?_ | refine W.w_eqS ?_ | refine W.w_neS ?_ | refine W.w_eqB ?_ | refine W.w_neB ?_
  | refine W.w_int ?_ | refine W.w_intB ?_ | refine W.w_min ?_ | refine W.w_max ?_ | refine W.w_isN ?_ | refine W.w_isI ?_ | refine W.w_isS ?_ | refine W.w_isB ?_ | refine W.w_isR ?_
  | refine W.w_notN ?_ | refine W.w_notI ?_ | refine W.w_notR ?_ | refine W.w_notS ?_ | refine W.w_eqNI ?_ | refine W.w_neNI ?_ | refine W.w_eqN ?_ | refine W.w_neN ?_
  | refine W.s_forL ?_ | refine W.s_forT ?_ | refine W.s_forS ?_ | refine W.s_forR1 ?_ | refine W.s_forR2 ?_ | refine W.s_forR3 ?_ | refine W.s_forZ ?_ | refine W.s_forE ?_
  | refine W.e_lcL ?_ | refine W.e_lcR1 ?_ | refine W.e_lcR2 ?_ | refine W.e_lcZ ?_ | refine W.e_lcS ?_ | refine W.t_yes ?_ | refine W.w_gcons ?_ | refine W.w_gnil ?_ | refine W.s_par ?_ | refine W.w_par ?_ | refine W.g_sub ?_ | refine W.e_m1 ?_ | refine W.w_strR ?_ | refine W.w_rAdd ?_ | refine W.w_rSub ?_ | refine W.s_raise ?_ | refine W.s_try ?_ | refine W.e_methS ?_)
local macro_rules | `(tactic| walk_at "w") => `(tactic| first
  | ((with_reducible refine' W.w_I ?wh ?wq); (case wh => walk_at "c"))
  | ((with_reducible refine' W.w_ixL (n := 0) ?wh ?we ?wq); (case wh => walk_at "f"); (case we => walk_at "a"))
  | ((with_reducible refine' W.w_ixT (n := 0) ?wh ?we ?wq); (case wh => walk_at "f"); (case we => walk_at "a"))
  | ((with_reducible refine' W.w_lenL ?wh ?wq); (case wh => walk_at "f"))
  | ((with_reducible refine' W.w_lenT ?wh ?wq); (case wh => walk_at "f"))
  | ((with_reducible refine' W.w_lenS ?wh ?wq); (case wh => walk_at "n"))
  | ((with_reducible refine' W.w_app ?wh ?we ?wq); (case wh => walk_at "f"); (case we => walk_at "n"))
  | ((with_reducible refine' W.w_meth ?wh ?we ?wq); (case wh => walk_at "f"); (case we => first | assumption | rfl))
  | ((with_reducible refine' W.w_ixLTl ?wh ?we ?wq); (case wh => walk_at "f"); (case we => walk_at "a"))
  | ((with_reducible refine' W.w_ixLTt ?wh ?we ?wq); (case wh => walk_at "f"); (case we => walk_at "a"))
  | ((with_reducible refine' W.w_addS ?wh ?wq); (case wh => walk_at "n"))
  | ((with_reducible refine' W.w_set ?wh ?we ?wq); (case wh => walk_at "f"); (case we => walk_at "a"))
  | ((with_reducible refine' W.w_tup ?wh ?we ?wq); (case wh => walk_at "f"); (case we => first | assumption | rfl))
  | ((with_reducible refine' W.w_slS ?wh ?wq); (case wh => walk_at "n"))
  | ((with_reducible refine' W.w_rApp ?wh ?we ?wq); (case wh => walk_at "f"); (case we => walk_at "n"))
  | ((with_reducible refine' W.w_newL ?wh ?wq); (case wh => walk_at "n"))
  | ((with_reducible refine' W.w_newT ?wh ?wq); (case wh => walk_at "n"))
  | ((with_reducible refine' W.w_listL ?wh ?wq); (case wh => walk_at "f"))
  | ((with_reducible refine' W.w_tupL ?wh ?wq); (case wh => walk_at "f"))
  | ((with_reducible refine' W.w_slL ?wh ?wq); (case wh => walk_at "f"))
  | ((with_reducible refine' W.w_cat ?wh ?wf ?we ?wq); (case wh => walk_at "f"); (case wf => walk_at "f"); (case we => walk_at "n"))
  | ((with_reducible refine' W.w_ext ?wh ?wf ?we ?wq); (case wh => walk_at "f"); (case wf => walk_at "f"); (case we => walk_at "n"))
  | ((with_reducible refine' W.w_recv ?wh ?wq); (case wh => walk_at "f"))
  | ((with_reducible refine' W.w_isi1 ?wh ?we ?wq); (case wh => assumption); (case we => decide +kernel))
  | ((with_reducible refine' W.w_isi0 ?wh ?we ?wq); (case wh => assumption); (case we => decide +kernel))
  | ((with_reducible refine' W.w_isiT10 ?wh ?wf ?we ?wg ?wq); (case wh => assumption); (case wf => walk_at "f"); (case we => decide +kernel); (case wg => decide +kernel))
  | ((with_reducible refine' W.w_isiT01 ?wh ?wf ?we ?wg ?wq); (case wh => assumption); (case wf => walk_at "f"); (case we => decide +kernel); (case wg => decide +kernel))
  | ((with_reducible refine' W.w_isiT00 ?wh ?wf ?we ?wg ?wq); (case wh => assumption); (case wf => walk_at "f"); (case we => decide +kernel); (case wg => decide +kernel))
  | ((with_reducible refine' W.w_ins ?wh ?we ?wf ?wq); (case wh => walk_at "f"); (case we => walk_at "n"); (case wf => walk_at "c"))
  | ((with_reducible refine' W.w_unl ?wh ?we ?wq); (case wh => walk_at "f"); (case we => first | assumption | rfl))
  | ((with_reducible refine' W.ite_T ?_))
  | ((with_reducible refine' W.ite_F ?_))
  | ((with_reducible refine' W.ite_nT ?_))
  | ((with_reducible refine' W.ite_nF ?_))
  | ((with_reducible refine' W.ite_self ?_))
  | ((with_reducible refine' W.ite_nself ?_))
  | ((with_reducible refine' W.ite_tf ?_))
  | ((with_reducible refine' W.ite_ft ?_))
  | ((with_reducible refine' W.ite_ntf ?_))
  | ((with_reducible refine' W.ite_nft ?_))
  | ((with_reducible refine' And.intro ?wl ?wq); (case wl => rfl)))
local macro_rules | `(tactic| walk_at "i") => `(tactic| try (dsimp only [L2.cxOf, L2.wipe, List.map, List.set]))
local macro_rules | `(tactic| walk_at "s") => `(tactic| first | walk_at "v" | walk_at "e" | walk_at "w")
local macro_rules | `(tactic| walk_at "r") => `(tactic| repeat walk_at "s")

namespace My
open PySem L2 W
variable {P : Program} {w : World} {K : PySem.W.Frag} {mg : Str → Option Value} {base : Heap} {A : Adr}
theorem ok__law_number (e : Env K mg A) : FnOk P w K mg base CX0 1 A.f__law_number A.d__law_number ["number"] (sp_wn K) := by
  refine e.F__law_number.ok sc__law_number (fun vs H Q E h => ?_) (fun cdv AA outer s H vs Q E hr h => ?_)
  · obtain ⟨n, rfl, _⟩ := h
    rfl
  · obtain ⟨n, rfl, hn, q⟩ := h
    refine ⟨_, (pss_cons (ps_set (i := 1) sc__law_number.nd rfl (Or.inl rfl) (pe_lst pa_nil))
    (pss_cons (ps_while PassesOwn.never (pt_cmpR op_gt (pv 0) pe_int (nomark _)) (pss_cons (ps_expr (pe_bmK (K := K) PySem.F.plainAttrs_list PySem.F.slot_list_append PySem.F.type_list_append mt_append (pv 1) (pa_cons (pe_op op_add pe_int (pe_op op_mod (pv 0) pe_int)) pa_nil)))
    (pss_one (ps_set (i := 0) sc__law_number.nd rfl (Or.inl rfl) (pe_op op_fdiv (pv 0) pe_int)))))
    (pss_one (ps_ret (pe_op op_cat (pv 1) (pe_lst (pa_cons (pv 0) pa_nil))))))), ?_⟩
    refine enter (st__law_number _) ?_
    walk_at "i"
    walk_at "r"
    intro p H1 np k1 hp
    walk_at "r"
    have hlen := wn_len 59 n hn
    refine while_ (fun m σ H' => ∃ (xs : List Int), σ = [some (.int (m : Int)), some (.ref p)] ∧ Keep [] H H' ∧ H' p = some (.lst (xs.map V.int)) ∧ wn n = xs ++ wn m) n ⟨[], rfl, k1, hp, rfl⟩ ?_
    rintro m σ H2 ⟨xs, rfl, k2, h2, hw⟩
    have hxl : xs.length ≤ 60 := by have := congrArg List.length hw; rw [List.length_append] at this; omega
    walk_at "r"
    refine ite_dec (fun hm => ?_) (fun hm => ?_)
    · refine turn ?_
      walk_at "r"
      intro H3 k3 h3
      walk_at "r"
      refine ⟨m / 128, by omega, xs ++ [((m % 128 + 128 : Nat) : Int)], ?_, k2.mut np k3, ?_, ?_⟩
      · rw [show ((m / 128 : Nat) : Int) = (m : Int) / 128 by omega]
      · rw [h3, List.map_append, show ((m % 128 + 128 : Nat) : Int) = 128 + (m : Int) % 128 by omega]; rfl
      · rw [hw, wn_hi (by omega)]; simp
    · walk_at "r"
      intro a H3 na k3 ha
      walk_at "r"
      have hp3 := k3.get h2 (by simp)
      intro c H4 nc k4 hc
      walk_at "r"
      refine q c H4 ?_ (k2.trans (k3.trans k4)) ?_
      · exact (k2.trans k3).free nc (by simp)
      · rw [hc, hw, wn_lo (by omega), List.map_append]; rfl
theorem ok__law_checksum (e : Env K mg A) : FnOk P w K mg base CX0 1 A.f__law_checksum A.d__law_checksum ["data"] (sp_ck K) := by
  refine e.F__law_checksum.ok sc__law_checksum (fun vs H Q E h => ?_) (fun cdv AA outer s H vs Q E hr h => ?_)
  · obtain ⟨a, ds, rfl, _⟩ := h
    rfl
  · obtain ⟨a, ds, rfl, ha, q⟩ := h
    refine ⟨_, (pss_cons (ps_set (i := 1) sc__law_checksum.nd rfl (Or.inl rfl) pe_int)
    (pss_cons (ps_for PassesOwn.never rfl (pi_listK (K := K) (pv 0)) (pg_name (i := 2) sc__law_checksum.nd rfl (Or.inl rfl)) (pss_one (ps_set (i := 1) sc__law_checksum.nd rfl (Or.inl rfl) (pe_op op_mod (pe_op op_add (pe_op op_add (pe_op op_mul pe_int (pv 1)) (pv 2)) pe_int) pe_int))))
    (pss_one (ps_ret (pv 1))))), ?_⟩
    refine enter (st__law_checksum _) ?_
    walk_at "i"
    walk_at "r"
    refine forL (SqL.of ha) (fun i σ H' => ∃ v2, σ = [some (.ref a), some (.int (ck (ds.take i))), v2] ∧ H' = H) ⟨_, rfl, rfl⟩ (fun i σ H' _ h => ?_) ?_ ?_
    · obtain ⟨_, _, rfl⟩ := h
      exact SqL.of ha
    · rintro i x σ H' hx ⟨v2, rfl, rfl⟩
      rw [List.getElem?_map] at hx
      cases hb : ds[i]? with
      | none => rw [hb] at hx; cases hx
      | some b =>
        rw [hb] at hx
        cases hx
        have hr := ck_rng (ds.take i)
        walk_at "r"
        refine ⟨some (.int b), ?_, rfl⟩
        rw [List.take_add_one, hb]
        show _ = [_, some (V.int (ck (ds.take i ++ [b]))), _]
        rw [ck_snoc]; rfl
    · rintro σ H' ⟨v2, rfl, rfl⟩
      walk_at "r"
      rw [List.length_map, List.take_length]
      exact q
theorem ok__law_record (e : Env K mg A) : FnOk P w K mg base CX0 2 A.f__law_record A.d__law_record ["data"] (sp_wr K) := by
  have G__law_checksum := ok__law_checksum (P := P) (w := w) (base := base) e
  have G__law_number := ok__law_number (P := P) (w := w) (base := base) e
  refine e.F__law_record.ok sc__law_record (fun vs H Q E h => ?_) (fun cdv AA outer s H vs Q E hr h => ?_)
  · obtain ⟨a, ds, rfl, _⟩ := h
    rfl
  · obtain ⟨a, ds, rfl, ha, hl, q⟩ := h
    refine ⟨_, (pss_cons (ps_set (i := 1) sc__law_record.nd rfl (Or.inl rfl) (pe_call G__law_checksum (hr.mono (by omega)) (by rfl) e.m__law_checksum e.k__law_checksum e.b__law_checksum .nil pass0 (pa_cons (pv 0) pa_nil)))
    (pss_one (ps_ret (pe_op op_cat (pe_op op_cat (pe_call G__law_number (hr.mono (by omega)) (by rfl) e.m__law_number e.k__law_number e.b__law_number .nil pass0 (pa_cons (pe_callB (call_lenLK (K := K)) (by rfl) e.n_len (by decide +kernel) (pa_cons (pv 0) pa_nil)) pa_nil)) (pv 0)) (pe_lst (pa_cons (pe_op op_fdiv (pv 1) pe_int) (pa_cons (pe_op op_mod (pe_op op_fdiv (pv 1) pe_int) pe_int) (pa_cons (pe_op op_mod (pe_op op_fdiv (pv 1) pe_int) pe_int) (pa_cons (pe_op op_mod (pv 1) pe_int) pa_nil))))))))), ?_⟩
    refine enter (st__law_record _) ?_
    walk_at "i"
    walk_at "r"
    refine ⟨a, ds, rfl, ha, ?_⟩
    have hr := ck_rng ds
    have hwl := wn_len3 hl
    walk_at "r"
    refine ⟨ds.length, by rw [List.length_map]; rfl, lt60 hl, fun n H2 nn k2 hn => ?_⟩
    walk_at "r"
    intro b H4 nb k4 hb
    walk_at "r"
    intro t H1 nt k1 ht
    walk_at "r"
    have hb1 := k1.get hb (by simp)
    intro r H5 nr k5 hr5
    walk_at "r"
    refine q r H5 ?_ (k2.trans (k4.trans (k1.trans k5))) ?_
    · exact (k2.trans (k4.trans k1)).free nr (by simp)
    · rw [hr5]
      unfold My.rec tl4
      simp only [List.map_append, List.map_cons, List.map_nil]
def sp_bytes (K : PySem.W.Frag) : Sp := fun vs H Q _ => ∃ (a c : Addr) (ns : List Int), vs = [.ref a] ∧ Drw a c ns H ∧
  ∀ p H' (ds : List Int), H p = none → Keep [a] H H' → Drw a c ns H' → H' p = some (.lst (ds.map V.int)) → (∀ b ∈ ds, 0 ≤ b ∧ b < 256) → ds.length ≤ 2000 → Q (.ref p) H'
theorem ok__law_bytes (e : Env K mg A) : FnOk P w K mg base CX0 4 A.f__law_bytes A.d__law_bytes ["state"] (sp_bytes K) := by
  have G__law_next := ok__law_next (P := P) (w := w) (base := base) e
  refine e.F__law_bytes.ok sc__law_bytes (fun vs H Q E h => ?_) (fun cdv AA outer s H vs Q E hr h => ?_)
  · obtain ⟨a, c, ns, rfl, _⟩ := h
    rfl
  · obtain ⟨a, c, ns, rfl, hD, q⟩ := h
    refine ⟨_, (pss_cons (ps_set (i := 1) sc__law_bytes.nd rfl (Or.inl rfl) (pe_call G__law_next (hr.mono (by omega)) (by rfl) e.m__law_next e.k__law_next e.b__law_next .nil pass0 (pa_cons (pv 0) (pa_cons pe_int pa_nil))))
    (pss_cons (ps_set (i := 2) sc__law_bytes.nd rfl (Or.inl rfl) (pe_call G__law_next (hr.mono (by omega)) (by rfl) e.m__law_next e.k__law_next e.b__law_next .nil pass0 (pa_cons (pv 0) (pa_cons pe_int pa_nil))))
    (Evl.pss_cut (ps_if (pt_cmpR op_lt (pv 2) pe_int (nomark _)) (pss_one (ps_set (i := 1) sc__law_bytes.nd rfl (Or.inl rfl) (pe_op op_add pe_int (pe_call G__law_next (hr.mono (by omega)) (by rfl) e.m__law_next e.k__law_next e.b__law_next .nil pass0 (pa_cons (pv 0) (pa_cons pe_int pa_nil)))))) (pss_one (ps_if (pt_cmpR op_lt (pv 2) pe_int (nomark _)) (pss_one (ps_set (i := 1) sc__law_bytes.nd rfl (Or.inl rfl) (pe_op op_add pe_int (pe_call G__law_next (hr.mono (by omega)) (by rfl) e.m__law_next e.k__law_next e.b__law_next .nil pass0 (pa_cons (pv 0) (pa_cons pe_int pa_nil)))))) (pss_one (ps_if (pt_cmpR op_eq (pv 2) pe_int (nomark _)) (pss_one (ps_set (i := 1) sc__law_bytes.nd rfl (Or.inl rfl) (pe_op op_add pe_int (pe_call G__law_next (hr.mono (by omega)) (by rfl) e.m__law_next e.k__law_next e.b__law_next .nil pass0 (pa_cons (pv 0) (pa_cons pe_int pa_nil)))))) pss_nil)))))
    (pss_cons (ps_set (i := 3) sc__law_bytes.nd rfl (Or.inr rfl) (pe_call G__law_next (hr.mono (by omega)) (by rfl) e.m__law_next e.k__law_next e.b__law_next .nil pass0 (pa_cons (pv 0) (pa_cons pe_int pa_nil))))
    (pss_one (ps_ret (pe_lc (own := [("k", 4)]) (by rfl) sc__law_bytes.nd (pi_range1 rfl e.n_range (pa_cons (pv 1) pa_nil)) (blkOk_by (own := [("k", 4)]) (N := nm__law_bytes) (sc := defScope s__law_bytes) (by decide +kernel)) (fun _ _ _ _ _ => (pg_name (i := 4) sc__law_bytes.nd rfl (Or.inl rfl))) (fun _ _ _ _ _ => pts_nil) (fun _ _ _ _ _ => (pe_op op_mod (pe_op op_add (pv 3) (pe_op op_mul (pe_op op_mul pe_int (pv 4)) (pv 4))) pe_int))))))))), ?_⟩
    refine enter (st__law_bytes _) ?_
    walk_at "i"
    walk_at "r"
    refine ⟨a, c, ns, 6, rfl, hD, by omega, fun n0 H1 n00 n01 k1 D1 => ?_⟩
    walk_at "r"
    refine ⟨a, c, ns, 24, rfl, D1, by omega, fun n1 H2 n10 n11 k2 D2 => ?_⟩
    walk_at "r"
    refine s_cut (fun σ' H' => ∃ n : Int, σ' = [some (.ref a), some (.int n), some (.int n1), none, none] ∧ Keep [a] H H' ∧ Drw a c ns H' ∧ 0 ≤ n ∧ n ≤ 2000) ?_ ?_
    · walk_at "r"
      refine ite_dec (fun h => ?_) (fun h => ?_)
      · walk_at "r"
        refine ⟨a, c, ns, 181, rfl, D2, by omega, fun n2 H3 n20 n21 k3 D3 => ?_⟩
        walk_at "r"
        exact ⟨_, rfl, k1.trans (k2.trans k3), D3, by omega, by omega⟩
      · walk_at "r"
        refine ite_dec (fun h => ?_) (fun h => ?_)
        · walk_at "r"
          refine ⟨a, c, ns, 114, rfl, D2, by omega, fun n2 H3 n20 n21 k3 D3 => ?_⟩
          walk_at "r"
          exact ⟨_, rfl, k1.trans (k2.trans k3), D3, by omega, by omega⟩
        · walk_at "r"
          refine ite_dec (fun h => ?_) (fun h => ?_)
          · walk_at "r"
            refine ⟨a, c, ns, 1700, rfl, D2, by omega, fun n2 H3 n20 n21 k3 D3 => ?_⟩
            walk_at "r"
            exact ⟨_, rfl, k1.trans (k2.trans k3), D3, by omega, by omega⟩
          · walk_at "r"
            exact ⟨_, rfl, k1.trans k2, D2, by omega, by omega⟩
    · rintro σ' H3 ⟨n, rfl, k3, D3, hn0, hn⟩
      walk_at "r"
      refine ⟨a, c, ns, 256, rfl, D3, by omega, fun st H4 s0 s1 k4 D4 => ?_⟩
      walk_at "r"
      refine lcR1 (by omega) (by omega) (fun D i H' => Keep [] H4 H' ∧ ∃ ds : List Int, H' D = some (.lst (ds.map V.int)) ∧ (∀ b ∈ ds, 0 ≤ b ∧ b < 256) ∧ ds.length = i) (fun D H5 nD k5 h5 => ⟨k5, [], h5, by simp, rfl⟩) ?_ ?_
      · rintro D i H5 nD hi ⟨k5, ds, h5, hb, hl⟩
        walk_at "i"
        walk_at "r"
        intro H6 k6 h6
        refine ⟨k5.mut nD k6, ds ++ [(st + 41 * (i : Int) * (i : Int)) % 256], by rw [h6, List.map_append]; rfl, fun b hb2 => ?_, by rw [List.length_append, hl]; rfl⟩
        rcases List.mem_append.mp hb2 with z | z
        · exact hb b z
        · rw [List.mem_singleton] at z
          omega
      · rintro D H5 nD ⟨k5, ds, h5, hb, hl⟩
        walk_at "r"
        exact q D H5 ds ((k3.trans k4).free nD (fun z => (D4.fre nD).1 (by simpa using z))) (k3.trans (k4.trans k5.any)) (D4.more k5) h5 hb (by omega)
end My

end
section
set_option maxHeartbeats 4000000
local macro_rules | `(tactic| walk_at "k") => `(tactic| first
  | assumption
  | exact W.Keep.trans (by assumption) (by assumption))
local macro_rules | `(tactic| walk_at "f") => `(tactic| first
  | assumption
  | exact L2.SqL.of (by assumption)
  | exact L2.SqT.of (by assumption)
  | exact L2.SqL.of L2.upd_same
  | exact L2.SqT.of L2.upd_same
  | exact L2.upd_same
  | exact W.carry0 (by assumption) (by assumption)
  | exact L2.SqL.of (W.carry0 (by assumption) (by assumption))
  | exact L2.SqT.of (W.carry0 (by assumption) (by assumption)))
local macro_rules | `(tactic| walk_at "a") => `(tactic| first
  | assumption
  | rfl)
local macro_rules | `(tactic| walk_at "n") => `(tactic| first
  | assumption
  | exact Nat.zero_le _
  | decide
  | (simp only [List.length_cons, List.length_nil]; decide)
  | omega
  | (simp only [PySem.sizeLine_eq]; omega)
  | (simp only [List.length_map, List.length_append, List.length_cons, List.length_nil, PySem.sizeLine_eq]; omega)
  | (simp only [List.length_map, List.length_append, List.length_cons, List.length_nil, List.length_take, List.length_drop, PySem.sizeLine_eq]; omega)
  | (simp only [List.length_map, List.length_append, List.length_cons, List.length_nil, PySem.sizeLine_eq] at *; omega))
local macro_rules | `(tactic| walk_at "c") => `(tactic| first
  | assumption
  | decide
  | exact And.intro (by decide) (by decide)
  | exact Or.inr (And.intro (by decide) (by decide))
  | exact Or.inl (And.intro (by decide) (by decide))
  | exact And.intro (by decide) (And.intro (by decide) (by decide))
  | exact (show (0 : Int) < _ by decide)
  | exact And.intro (by omega) (by omega)
  | exact Or.inl (And.intro (by omega) (by omega))
  | exact Or.inr (And.intro (by omega) (by omega))
  | exact (show (0 : Int) < _ by omega))
local macro_rules | `(tactic| walk_at "v") => `(tactic| with_reducible first
  | refine W.v0 ?_ | refine W.v1 ?_ | refine W.v2 ?_ | refine W.v3 ?_ | refine W.v4 ?_ | refine W.v5 ?_ | refine W.v6 ?_ | refine W.v7 ?_ | refine W.v8 ?_
  | refine W.v9 ?_ | refine W.v10 ?_ | refine W.v11 ?_ | refine W.v12 ?_ | refine W.v13 ?_ | refine W.v14 ?_ | refine W.v15 ?_ | refine W.v16 ?_ | refine W.v17 ?_
  | refine W.g0 ?_ | refine W.g1 ?_ | refine W.g2 ?_ | refine W.g3 ?_ | refine W.g4 ?_ | refine W.g5 ?_ | refine W.g6 ?_ | refine W.g7 ?_ | refine W.g8 ?_
  | refine W.g9 ?_ | refine W.g10 ?_ | refine W.g11 ?_ | refine W.g12 ?_ | refine W.g13 ?_ | refine W.g14 ?_ | refine W.g15 ?_)
local macro_rules | `(tactic| walk_at "e") => `(tactic| with_reducible first
  | refine W.e_c ?_ | refine W.e_op ?_ | refine W.s_seq ?_ | refine W.s_asg ?_ | refine W.e_CB ?_ | refine W.a_cons ?_ | refine W.a_nil ?_ | refine W.e_call ?_
  | refine W.t_test ?_ | refine W.w_B ?_ | refine W.s_if ?_ | refine W.s_ret ?_ | refine W.s_drop ?_ | refine W.e_un ?_ | refine W.e_fld ?_ | refine W.s_fld ?_
  | refine W.e_meth ?_ | refine W.e_if ?_ | refine W.e_lst ?_ | refine W.e_tup ?_ | refine W.e_sl ?_ | refine W.o_none ?_ | refine W.o_some ?_ | refine W.w_part ?_
  | refine W.e_bm ?_ | refine W.e_bm0 ?_ | refine W.t_B ?_ | refine W.t_and ?_ | refine W.t_or ?_ | refine W.t_not ?_ | refine W.e_andV ?_ | refine W.e_orV ?_ | refine W.e_notV ?_ | refine W.w_BV ?_ | refine W.e_chain ?_
  | refine W.s_aug ?_ | refine W.s_augS ?_ | refine W.s_next ?_ | refine W.s_brk ?_ | refine W.s_cont ?_ | refine W.s_retN ?_ | refine W.s_fa ?_ | refine W.e_make ?_ | refine W.w_make ?_
  | refine W.w_I0 ?_ | refine W.w_U ?_ | refine W.w_aug ?_ | refine W.w_eqI ?_ | refine W.w_neI ?_ | refine W.w_eqS ?_ | refine W.w_neS ?_ | refine W.w_eqB ?_ | refine W.w_neB ?_
  | refine W.w_int ?_ | refine W.w_intB ?_ | refine W.w_min ?_ | refine W.w_max ?_ | refine W.w_isN ?_ | refine W.w_isI ?_ | refine W.w_isS ?_ | refine W.w_isB ?_ | refine W.w_isR ?_
  | refine W.w_notN ?_ | refine W.w_notI ?_ | refine W.w_notR ?_ | refine W.w_notS ?_ | refine W.w_eqNI ?_ | refine W.w_neNI ?_ | refine W.w_eqN ?_ | refine W.w_neN ?_
  | refine W.s_forL ?_ | refine W.s_forT ?_ | refine W.s_forS ?_ | refine W.s_forR1 ?_ | refine W.s_forR2 ?_ | refine W.s_forR3 ?_ | refine W.s_forZ ?_ | refine W.s_forE ?_
  | refine W.e_lcL ?_ | refine W.e_lcR1 ?_ | refine W.e_lcR2 ?_ | refine W.e_lcZ ?_ | refine W.e_lcS ?_ | refine W.t_yes ?_ | refine W.w_gcons ?_ | refine W.w_gnil ?_ | refine W.s_par ?_ | refine W.w_par ?_ | refine W.g_sub ?_ | refine W.e_m1 ?_ | refine W.w_strR ?_ | refine W.w_rAdd ?_ | refine W.w_rSub ?_ | refine W.s_raise ?_ | refine W.s_try ?_ | refine W.e_methS ?_)
local macro_rules | `(tactic| walk_at "w") => `(tactic| first
  | ((with_reducible refine' W.w_I ?wh ?wq); (case wh => walk_at "c"))
  | ((with_reducible refine' W.w_ixL (n := 0) ?wh ?we ?wq); (case wh => walk_at "f"); (case we => walk_at "a"))
  | ((with_reducible refine' W.w_ixT (n := 0) ?wh ?we ?wq); (case wh => walk_at "f"); (case we => walk_at "a"))
  | ((with_reducible refine' W.w_lenL ?wh ?wq); (case wh => walk_at "f"))
  | ((with_reducible refine' W.w_lenT ?wh ?wq); (case wh => walk_at "f"))
  | ((with_reducible refine' W.w_lenS ?wh ?wq); (case wh => walk_at "n"))
  | ((with_reducible refine' W.w_app ?wh ?we ?wq); (case wh => walk_at "f"); (case we => walk_at "n"))
  | ((with_reducible refine' W.w_meth ?wh ?we ?wq); (case wh => walk_at "f"); (case we => first | assumption | rfl))
  | ((with_reducible refine' W.w_ixLTl ?wh ?we ?wq); (case wh => walk_at "f"); (case we => walk_at "a"))
  | ((with_reducible refine' W.w_ixLTt ?wh ?we ?wq); (case wh => walk_at "f"); (case we => walk_at "a"))
  | ((with_reducible refine' W.w_addS ?wh ?wq); (case wh => walk_at "n"))
  | ((with_reducible refine' W.w_set ?wh ?we ?wq); (case wh => walk_at "f"); (case we => walk_at "a"))
  | ((with_reducible refine' W.w_tup ?wh ?we ?wq); (case wh => walk_at "f"); (case we => first | assumption | rfl))
  | ((with_reducible refine' W.w_slS ?wh ?wq); (case wh => walk_at "n"))
  | ((with_reducible refine' W.w_rApp ?wh ?we ?wq); (case wh => walk_at "f"); (case we => walk_at "n"))
  | ((with_reducible refine' W.w_newL ?wh ?wq); (case wh => walk_at "n"))
  | ((with_reducible refine' W.w_newT ?wh ?wq); (case wh => walk_at "n"))
  | ((with_reducible refine' W.w_listL ?wh ?wq); (case wh => walk_at "f"))
  | ((with_reducible refine' W.w_tupL ?wh ?wq); (case wh => walk_at "f"))
  | ((with_reducible refine' W.w_slL ?wh ?wq); (case wh => walk_at "f"))
  | ((with_reducible refine' W.w_cat ?wh ?wf ?we ?wq); (case wh => walk_at "f"); (case wf => walk_at "f"); (case we => walk_at "n"))
  | ((with_reducible refine' W.w_ext ?wh ?wf ?we ?wq); (case wh => walk_at "f"); (case wf => walk_at "f"); (case we => walk_at "n"))
  | ((with_reducible refine' W.w_recv ?wh ?wq); (case wh => walk_at "f"))
  | ((with_reducible refine' W.w_isi1 ?wh ?we ?wq); (case wh => assumption); (case we => decide +kernel))
  | ((with_reducible refine' W.w_isi0 ?wh ?we ?wq); (case wh => assumption); (case we => decide +kernel))
  | ((with_reducible refine' W.w_isiT10 ?wh ?wf ?we ?wg ?wq); (case wh => assumption); (case wf => walk_at "f"); (case we => decide +kernel); (case wg => decide +kernel))
  | ((with_reducible refine' W.w_isiT01 ?wh ?wf ?we ?wg ?wq); (case wh => assumption); (case wf => walk_at "f"); (case we => decide +kernel); (case wg => decide +kernel))
  | ((with_reducible refine' W.w_isiT00 ?wh ?wf ?we ?wg ?wq); (case wh => assumption); (case wf => walk_at "f"); (case we => decide +kernel); (case wg => decide +kernel))
  | ((with_reducible refine' W.w_ins ?wh ?we ?wf ?wq); (case wh => walk_at "f"); (case we => walk_at "n"); (case wf => walk_at "c"))
  | ((with_reducible refine' W.w_unl ?wh ?we ?wq); (case wh => walk_at "f"); (case we => first | assumption | rfl))
  | ((with_reducible refine' W.ite_T ?_))
  | ((with_reducible refine' W.ite_F ?_))
  | ((with_reducible refine' W.ite_nT ?_))
  | ((with_reducible refine' W.ite_nF ?_))
  | ((with_reducible refine' W.ite_self ?_))
  | ((with_reducible refine' W.ite_nself ?_))
  | ((with_reducible refine' W.ite_tf ?_))
  | ((with_reducible refine' W.ite_ft ?_))
  | ((with_reducible refine' W.ite_ntf ?_))
  | ((with_reducible refine' W.ite_nft ?_))
  | ((with_reducible refine' And.intro ?wl ?wq); (case wl => rfl)))
local macro_rules | `(tactic| walk_at "i") => `(tactic| try (dsimp only [L2.cxOf, L2.wipe, List.map, List.set]))
local macro_rules | `(tactic| walk_at "s") => `(tactic| first | walk_at "v" | walk_at "e" | walk_at "w")
local macro_rules | `(tactic| walk_at "r") => `(tactic| repeat walk_at "s")

namespace My
open PySem L2 W
variable {P : Program} {w : World} {K : PySem.W.Frag} {mg : Str → Option Value} {base : Heap} {A : Adr}
theorem w_rep {H : Hp} {Q : VK} {l : Addr} {k : Int} {xs : List V} (h : H l = some (.lst xs)) (h1 : 0 ≤ k ∧ k < 1000) (hz : xs.length * k.toNat ≤ sizeLine) (q : ∀ p H1, H p = none → Keep [] H H1 → H1 p = some (.lst (List.replicate k.toNat xs).flatten) → Q (.ref p) H1) : rRep (.ref l) (.int k) H Q :=
  ⟨l, k, xs, rfl, rfl, h, by omega, by omega, hz, fun p np => q p _ np (Keep.new np) upd_same⟩
theorem tl4_rng (t : Int) (h : 0 ≤ t ∧ t < 4294967296) (j : Nat) (hj : j < 4) : ∃ b, (tl4 t)[j]? = some b ∧ 0 ≤ b ∧ b < 256 := by
  unfold tl4
  rcases (show j = 0 ∨ j = 1 ∨ j = 2 ∨ j = 3 by omega) with rfl | rfl | rfl | rfl
  · exact ⟨_, rfl, by omega, by omega⟩
  · exact ⟨_, rfl, by omega, by omega⟩
  · exact ⟨_, rfl, by omega, by omega⟩
  · exact ⟨_, rfl, by omega, by omega⟩
theorem rec_at_sum (d : List Int) (j : Nat) : (My.rec d)[(My.rec d).length - 4 + j]? = (tl4 (ck d))[j]? := by
  have e0 : (My.rec d).length - 4 = (wn d.length ++ d).length := by rw [rec_len]; simp
  rw [e0]; unfold My.rec
  rw [List.getElem?_append_right (by omega), Nat.add_sub_cancel_left]
theorem rec_at_data (d : List Int) (j : Nat) (h : j < d.length) : (My.rec d)[(wn d.length).length + j]? = d[j]? := by
  unfold My.rec
  rw [List.append_assoc, List.getElem?_append_right (by omega), Nat.add_sub_cancel_left, List.getElem?_append_left h]
theorem rec_drop (d : List Int) : (My.rec d).drop (wn d.length).length = d ++ tl4 (ck d) := by
  unfold My.rec; rw [List.append_assoc, List.drop_left]
def sp_behind (K : PySem.W.Frag) : Sp := fun vs H Q _ => ∃ (a c : Addr) (ns : List Int), vs = [.ref a] ∧ Drw a c ns H ∧
  ∀ p H' (l : List Int), H p = none → Keep [a] H H' → Drw a c ns H' → H' p = some (.lst (l.map V.int)) → Bad l → l.length ≤ 5000 → Q (.ref p) H'
theorem ok__law_behind (e : Env K mg A) : FnOk P w K mg base CX0 5 A.f__law_behind A.d__law_behind ["state"] (sp_behind K) := by
  have G__law_next := ok__law_next (P := P) (w := w) (base := base) e
  have G__law_bytes := ok__law_bytes (P := P) (w := w) (base := base) e
  have G__law_number := ok__law_number (P := P) (w := w) (base := base) e
  have G__law_record := ok__law_record (P := P) (w := w) (base := base) e
  refine e.F__law_behind.ok sc__law_behind (fun vs H Q E h => ?_) (fun cdv AA outer s H vs Q E hr h => ?_)
  · obtain ⟨a, c, ns, rfl, _⟩ := h
    rfl
  · obtain ⟨a, c, ns, rfl, hD, q⟩ := h
    refine ⟨_, (pss_cons (ps_set (i := 1) sc__law_behind.nd rfl (Or.inl rfl) (pe_call G__law_bytes (hr.mono (by omega)) (by rfl) e.m__law_bytes e.k__law_bytes e.b__law_bytes .nil pass0 (pa_cons (pv 0) pa_nil)))
    (pss_cons (ps_set (i := 2) sc__law_behind.nd rfl (Or.inl rfl) (pe_call G__law_record (hr.mono (by omega)) (by rfl) e.m__law_record e.k__law_record e.b__law_record .nil pass0 (pa_cons (pv 1) pa_nil)))
    (pss_cons (ps_set (i := 3) sc__law_behind.nd rfl (Or.inl rfl) (pe_ix (ix_listK (K := K)) (pe_lst (pa_cons (pe_lst pa_nil) (pa_cons (pe_op op_cat (pe_call G__law_record (hr.mono (by omega)) (by rfl) e.m__law_record e.k__law_record e.b__law_record .nil pass0 (pa_cons (pe_lst (pa_cons pe_int (pa_cons pe_int (pa_cons pe_int pa_nil)))) pa_nil)) (pe_call G__law_record (hr.mono (by omega)) (by rfl) e.m__law_record e.k__law_record e.b__law_record .nil pass0 (pa_cons (pe_lst pa_nil) pa_nil))) pa_nil))) (pe_call G__law_next (hr.mono (by omega)) (by rfl) e.m__law_next e.k__law_next e.b__law_next .nil pass0 (pa_cons (pv 0) (pa_cons pe_int pa_nil))) (fun _ _ => rfl)))
    (pss_cons (ps_set (i := 4) sc__law_behind.nd rfl (Or.inl rfl) (pe_call G__law_next (hr.mono (by omega)) (by rfl) e.m__law_next e.k__law_next e.b__law_next .nil pass0 (pa_cons (pv 0) (pa_cons pe_int pa_nil))))
    (pss_cons (ps_if (pt_cmpR op_eq (pv 4) pe_int (nomark _)) (pss_one (ps_ret (pe_lst pa_nil))) pss_nil)
    (pss_cons (ps_if (pt_cmpR op_eq (pv 4) pe_int (nomark _)) (pss_one (ps_ret (pe_slice (sl_listK (K := K)) (pv 2) po_none (po_some (pe_call G__law_next (hr.mono (by omega)) (by rfl) e.m__law_next e.k__law_next e.b__law_next .nil pass0 (pa_cons (pv 0) (pa_cons (pe_callB (call_lenLK (K := K)) (by rfl) e.n_len (by decide +kernel) (pa_cons (pv 2) pa_nil)) pa_nil))))))) pss_nil)
    (pss_cons (ps_if (pt_cmpR op_eq (pv 4) pe_int (nomark _)) (pss_cons (ps_set (i := 5) sc__law_behind.nd rfl (Or.inl rfl) (pe_op op_sub (pe_op op_sub (pe_callB (call_lenLK (K := K)) (by rfl) e.n_len (by decide +kernel) (pa_cons (pv 2) pa_nil)) pe_int) (pe_call G__law_next (hr.mono (by omega)) (by rfl) e.m__law_next e.k__law_next e.b__law_next .nil pass0 (pa_cons (pv 0) (pa_cons pe_int pa_nil)))))
    (pss_one (ps_ret (pe_op op_cat (pe_op op_cat (pe_op op_cat (pe_slice (sl_listK (K := K)) (pv 2) po_none (po_some (pv 5))) (pe_lst (pa_cons (pe_op op_mod (pe_op op_add (pe_op op_add (pe_ix (ix_listK (K := K)) (pv 2) (pv 5) (fun _ _ => rfl)) pe_int) (pe_call G__law_next (hr.mono (by omega)) (by rfl) e.m__law_next e.k__law_next e.b__law_next .nil pass0 (pa_cons (pv 0) (pa_cons pe_int pa_nil)))) pe_int) pa_nil))) (pe_slice (sl_listK (K := K)) (pv 2) (po_some (pe_op op_add (pv 5) pe_int)) po_none)) (pv 3))))) pss_nil)
    (pss_cons (ps_if (PW.pt (pw_and (pt_cmpR op_eq (pv 4) pe_int (nomark _)) (pw_and1 (pt_cmpR op_gt (pe_callB (call_lenLK (K := K)) (by rfl) e.n_len (by decide +kernel) (pa_cons (pv 1) pa_nil)) pe_int (nomark _))))) (pss_cons (ps_set (i := 5) sc__law_behind.nd rfl (Or.inl rfl) (pe_op op_sub (pe_op op_sub (pe_callB (call_lenLK (K := K)) (by rfl) e.n_len (by decide +kernel) (pa_cons (pv 2) pa_nil)) pe_int) (pe_call G__law_next (hr.mono (by omega)) (by rfl) e.m__law_next e.k__law_next e.b__law_next .nil pass0 (pa_cons (pv 0) (pa_cons (pe_callB (call_lenLK (K := K)) (by rfl) e.n_len (by decide +kernel) (pa_cons (pv 1) pa_nil)) pa_nil)))))
    (pss_one (ps_ret (pe_op op_cat (pe_op op_cat (pe_op op_cat (pe_slice (sl_listK (K := K)) (pv 2) po_none (po_some (pv 5))) (pe_lst (pa_cons (pe_op op_mod (pe_op op_add (pe_op op_add (pe_ix (ix_listK (K := K)) (pv 2) (pv 5) (fun _ _ => rfl)) pe_int) (pe_call G__law_next (hr.mono (by omega)) (by rfl) e.m__law_next e.k__law_next e.b__law_next .nil pass0 (pa_cons (pv 0) (pa_cons pe_int pa_nil)))) pe_int) pa_nil))) (pe_slice (sl_listK (K := K)) (pv 2) (po_some (pe_op op_add (pv 5) pe_int)) po_none)) (pv 3))))) pss_nil)
    (pss_cons (ps_set (i := 6) sc__law_behind.nd rfl (Or.inl rfl) (pe_call G__law_number (hr.mono (by omega)) (by rfl) e.m__law_number e.k__law_number e.b__law_number .nil pass0 (pa_cons (pe_callB (call_lenLK (K := K)) (by rfl) e.n_len (by decide +kernel) (pa_cons (pv 1) pa_nil)) pa_nil)))
    (pss_cons (ps_set (i := 7) sc__law_behind.nd rfl (Or.inl rfl) (pe_op op_cat (pe_op op_cat (pe_lst (pa_cons (pe_op op_add (pe_ix (ix_listK (K := K)) (pv 6) (pe_op op_sub (pe_callB (call_lenLK (K := K)) (by rfl) e.n_len (by decide +kernel) (pa_cons (pv 6) pa_nil)) pe_int) (fun _ _ => rfl)) pe_int) pa_nil)) (pe_op op_rep (pe_lst (pa_cons pe_int pa_nil)) (pe_call G__law_next (hr.mono (by omega)) (by rfl) e.m__law_next e.k__law_next e.b__law_next .nil pass0 (pa_cons (pv 0) (pa_cons pe_int pa_nil))))) (pe_lst (pa_cons pe_int pa_nil))))
    (pss_one (ps_ret (pe_op op_cat (pe_op op_cat (pe_op op_cat (pe_slice (sl_listK (K := K)) (pv 6) po_none (po_some (pe_op op_sub (pe_callB (call_lenLK (K := K)) (by rfl) e.n_len (by decide +kernel) (pa_cons (pv 6) pa_nil)) pe_int))) (pv 7)) (pe_slice (sl_listK (K := K)) (pv 2) (po_some (pe_callB (call_lenLK (K := K)) (by rfl) e.n_len (by decide +kernel) (pa_cons (pv 6) pa_nil))) po_none)) (pv 3)))))))))))))), ?_⟩
    refine enter (st__law_behind _) ?_
    walk_at "i"
    walk_at "r"
    refine ⟨a, c, ns, rfl, hD, fun dp H1 d nd k1 D1 hd hdb hdl => ?_⟩
    walk_at "r"
    refine ⟨dp, d, rfl, hd, by omega, fun rp H2 nr k2 hr2 => ?_⟩
    have D2 := D1.more k2
    have hrl : (My.rec d).length ≤ 2007 := by have := wn_len3 (n := d.length) (by omega); rw [rec_len]; omega
    walk_at "r"
    intro x1 H3 nx1 k3 hx1
    walk_at "r"
    intro x2 H4 nx2 k4 hx2
    refine ⟨x2, [1, 2, 3], rfl, hx2, by decide, fun x3 H5 nx3 k5 hx3 => ?_⟩
    walk_at "r"
    intro x4 H6 nx4 k6 hx4
    refine ⟨x4, [], rfl, hx4, by decide, fun x5 H7 nx5 k7 hx5 => ?_⟩
    have l3 : (My.rec [1, 2, 3]).length = 8 := by rw [rec_len, wn_lo (by decide)]; rfl
    have l0 : (My.rec []).length = 5 := by rw [rec_len, wn_lo (by decide)]; rfl
    generalize My.rec [1, 2, 3] = f1 at hx3 l3
    generalize My.rec [] = f2 at hx5 l0
    replace hx3 := carry0 k7 (carry0 k6 hx3)
    walk_at "r"
    intro x6 H8 nx6 k8 hx6
    walk_at "r"
    intro x7 H9 nx7 k9 hx7
    walk_at "r"
    have D9 := (D2.more k3).more (k4.trans (k5.trans (k6.trans (k7.trans (k8.trans k9)))))
    refine ⟨a, c, ns, 2, rfl, D9, by omega, fun n0 H10 n00 n01 k10 D10 => ?_⟩
    obtain ⟨fp, f, hat, hfp, hfl⟩ : ∃ fp, ∃ f : List Int, atI [V.ref x1, V.ref x6] n0 = some (.ref fp) ∧ H9 fp = some (.lst (f.map V.int)) ∧ f.length ≤ 13 := by
      rcases (show n0 = 0 ∨ n0 = 1 by omega) with rfl | rfl
      · exact ⟨x1, [], rfl, (k4.trans (k5.trans (k6.trans (k7.trans (k8.trans k9))))).get hx1 (by simp), by simp⟩
      · exact ⟨x6, f1 ++ f2, rfl, by rw [List.map_append]; exact k9.get hx6 (by simp), by rw [List.length_append]; omega⟩
    have fx7 := D9.fre (b := x7)
    have k29 : Keep [] H2 H9 := k3.trans (k4.trans (k5.trans (k6.trans (k7.trans (k8.trans k9)))))
    have nx7' : x7 ≠ a := ((D2.more (k3.trans (k4.trans (k5.trans (k6.trans (k7.trans k8)))))).fre nx7).1
    have hx7' := k10.get hx7 (by simp [nx7'])
    have nrp : rp ≠ a := (D1.fre nr).1
    have ndp : dp ≠ a := (hD.fre nd).1
    have nfp : fp ≠ a := by
      intro z; subst z; obtain ⟨i, _, h, _⟩ := D9; rw [h] at hfp; cases f with
      | nil => cases hfp
      | cons y r => cases hfp
    have hd10 := k10.get ((k2.trans k29).get hd (by simp)) (by simp [ndp])
    have hr10 := k10.get (k29.get hr2 (by simp)) (by simp [nrp])
    have hf10 := k10.get hfp (by simp [nfp])
    have k010 : Keep [a] H H10 := k1.trans (k2.any.trans (k29.any.trans k10))
    walk_at "r"
    refine ⟨a, c, ns, 5, rfl, D10, by omega, fun n1 H11 n10 n11 k11 D11 => ?_⟩
    have hd11 := k11.get hd10 (by simp [ndp])
    have hr11 := k11.get hr10 (by simp [nrp])
    have hf11 := k11.get hf10 (by simp [nfp])
    have k011 := k010.trans k11
    have new : ∀ {H' : Hp} {p : Addr}, Keep [a] H11 H' → Drw a c ns H' → H' p = none → H p = none := fun k D np => (k011.trans k).free np (fun z => (D.fre np).1 (by simpa using z))
    clear hx1 hx2 hx3 hx4 hx5 hx6 hx7 hx7' k1 k2 k3 k4 k5 k6 k7 k8 k9 k10 k11 k29 hd hr2 hfp hd10 hr10 hf10 k010 D1 D2 D9 D10 hD nd nr nx1 nx2 nx3 nx4 nx5 nx6 nx7 fx7 nx7' hat
    walk_at "r"
    refine ite_dec (fun h1 => ?_) (fun h1 => ?_)
    · walk_at "r"
      intro p H12 np k12 hp
      exact q p H12 [] (new Keep.refl D11 np) (k011.trans k12.any) (D11.more k12) hp bad_nil (by simp)
    walk_at "r"
    have hwl := wn_len3 (n := d.length) (by omega)
    have hwp := wn_pos d.length
    have hRl := rec_len d
    refine ite_dec (fun h2 => ?_) (fun h2 => ?_)
    · walk_at "r"
      rw [List.length_map]
      refine ⟨a, c, ns, _, rfl, D11, by omega, fun v H12 v0 v1 k12 D12 => ?_⟩
      obtain ⟨j, rfl⟩ := Int.eq_ofNat_of_zero_le v0
      have hr12 := k12.get hr11 (by simp [nrp])
      walk_at "r"
      rw [cutV_to, ← List.map_take]
      intro p H13 np k13 hp
      exact q p H13 _ (new k12 D12 np) (k011.trans (k12.trans k13.any)) (D12.more k13) hp (bad_take d j (by omega) (by omega)) (by rw [List.length_take]; omega)
    walk_at "r"
    -- a byte of the record is another
    have other : ∀ (b v : Int), 0 ≤ b ∧ b < 256 → 0 ≤ v → v < 255 → (b + 1 + v) % 256 ≠ b ∧ 0 ≤ (b + 1 + v) % 256 ∧ (b + 1 + v) % 256 < 256 := fun b v hb v0 v1 => by omega
    refine ite_dec (fun h3 => ?_) (fun h3 => ?_)
    · walk_at "r"
      rw [List.length_map]
      refine ⟨a, c, ns, 4, rfl, D11, by omega, fun v H12 v0 v1 k12 D12 => ?_⟩
      have hr12 := k12.get hr11 (by simp [nrp])
      have hf12 := k12.get hf11 (by simp [nfp])
      obtain ⟨j, hj, hj4⟩ : ∃ j : Nat, ((My.rec d).length : Int) - 1 - v = (((My.rec d).length - 4 + j : Nat) : Int) ∧ j < 4 := ⟨(3 - v).toNat, by omega, by omega⟩
      obtain ⟨b, hb1, hb2⟩ := tl4_rng _ (ck_rng d) j hj4
      have hat2 := rec_at_sum d j
      rw [hb1] at hat2
      have hat3 : atI ((My.rec d).map V.int) (((My.rec d).length - 4 + j : Nat) : Int) = some (.int b) := atI_nat (by rw [List.getElem?_map, hat2]; rfl)
      generalize hP : (My.rec d).length - 4 + j = P0 at hj hat3
      walk_at "r"
      rw [hj]
      walk_at "r"
      rw [cutV_to, ← List.map_take]
      intro p1 H13 np1 k13 hp1
      walk_at "r"
      refine ⟨a, c, ns, 255, rfl, D12.more k13, by omega, fun u H14 u0 u1 k14 D14 => ?_⟩
      walk_at "r"
      intro p2 H15 np2 k15 hp2
      have np1a : p1 ≠ a := (D12.fre np1).1
      have hp1' := (k14.get hp1 (by simp [np1a]))
      have hr14 := k14.get (k13.get hr12 (by simp)) (by simp [nrp])
      have hf14 := k14.get (k13.get hf12 (by simp)) (by simp [nfp])
      have kk1 := k011.trans (k12.trans (k13.any.trans k14))
      clear hr11 hf11 hd11 hr12 hf12 hp1 D11
      walk_at "r"
      intro p3 H16 np3 k16 hp3
      have hr16 := carry0 k16 (carry0 k15 hr14)
      walk_at "r"
      rw [show (P0 : Int) + 1 = ((P0 + 1 : Nat) : Int) by omega, cutV_from, ← List.map_drop]
      intro p4 H17 np4 k17 hp4
      walk_at "r"
      intro p5 H18 np5 k18 hp5
      have hf18 := carry0 k18 (carry0 k17 (carry0 k16 (carry0 k15 hf14)))
      walk_at "r"
      intro p6 H19 np6 k19 hp6
      have k1418 : Keep [] H14 H18 := k15.trans (k16.trans (k17.trans k18))
      have DD := D14.more k1418
      refine q p6 H19 ((My.rec d).take P0 ++ [(b + 1 + u) % 256] ++ (My.rec d).drop (P0 + 1) ++ f) ((kk1.trans k1418.any).free np6 (fun z => (DD.fre np6).1 (by simpa using z))) (kk1.trans (k1418.any.trans k19.any)) (DD.more k19) (by rw [hp6]; simp only [List.map_append, List.map_cons, List.map_nil]) ?_ ?_
      · rw [← hP]
        exact bad_sum d f j _ hj4 (by rw [hb1]; intro z; exact (other b u hb2 u0 u1).1 (Option.some.inj z).symm) (by omega)
      · simp only [List.length_append, List.length_take, List.length_drop, List.length_cons, List.length_nil]; omega
    walk_at "r"
    refine ite_dec (fun h4 => ?_) (fun h4 => ?_)
    · walk_at "r"
      rw [List.length_map]
      refine ite_dec (fun h5 => ?_) (fun h5 => ?_)
      · walk_at "r"
        rw [List.length_map]
        rw [List.length_map]
        refine ⟨a, c, ns, _, rfl, D11, by omega, fun v H12 v0 v1 k12 D12 => ?_⟩
        have hr12 := k12.get hr11 (by simp [nrp])
        have hf12 := k12.get hf11 (by simp [nfp])
        obtain ⟨j, hj, hj4⟩ : ∃ j : Nat, ((My.rec d).length : Int) - 5 - v = (((wn d.length).length + j : Nat) : Int) ∧ j < d.length := ⟨(d.length - 1 - v).toNat, by omega, by omega⟩
        have hb1 : d[j]? = some d[j] := List.getElem?_eq_getElem hj4
        have hb2 := hdb _ (List.getElem_mem hj4)
        generalize d[j] = b at hb1 hb2
        have hat2 := rec_at_data d j hj4
        rw [hb1] at hat2
        have hat3 : atI ((My.rec d).map V.int) (((wn d.length).length + j : Nat) : Int) = some (.int b) := atI_nat (by rw [List.getElem?_map, hat2]; rfl)
        generalize hP : (wn d.length).length + j = P0 at hj hat3
        walk_at "r"
        rw [hj]
        walk_at "r"
        rw [cutV_to, ← List.map_take]
        intro p1 H13 np1 k13 hp1
        walk_at "r"
        refine ⟨a, c, ns, 255, rfl, D12.more k13, by omega, fun u H14 u0 u1 k14 D14 => ?_⟩
        walk_at "r"
        intro p2 H15 np2 k15 hp2
        have np1a : p1 ≠ a := (D12.fre np1).1
        have hp1' := (k14.get hp1 (by simp [np1a]))
        have hr14 := k14.get (k13.get hr12 (by simp)) (by simp [nrp])
        have hf14 := k14.get (k13.get hf12 (by simp)) (by simp [nfp])
        have kk1 := k011.trans (k12.trans (k13.any.trans k14))
        clear hr11 hf11 hd11 hr12 hf12 hp1 D11
        walk_at "r"
        intro p3 H16 np3 k16 hp3
        have hr16 := carry0 k16 (carry0 k15 hr14)
        walk_at "r"
        rw [show (P0 : Int) + 1 = ((P0 + 1 : Nat) : Int) by omega, cutV_from, ← List.map_drop]
        intro p4 H17 np4 k17 hp4
        walk_at "r"
        intro p5 H18 np5 k18 hp5
        have hf18 := carry0 k18 (carry0 k17 (carry0 k16 (carry0 k15 hf14)))
        walk_at "r"
        intro p6 H19 np6 k19 hp6
        have k1418 : Keep [] H14 H18 := k15.trans (k16.trans (k17.trans k18))
        have DD := D14.more k1418
        refine q p6 H19 ((My.rec d).take P0 ++ [(b + 1 + u) % 256] ++ (My.rec d).drop (P0 + 1) ++ f) ((kk1.trans k1418.any).free np6 (fun z => (DD.fre np6).1 (by simpa using z))) (kk1.trans (k1418.any.trans k19.any)) (DD.more k19) (by rw [hp6]; simp only [List.map_append, List.map_cons, List.map_nil]) ?_ ?_
        · rw [← hP]
          exact bad_data d f j _ hj4 (by rw [hb1]; intro z; exact (other b u hb2 u0 u1).1 (Option.some.inj z).symm) (other b u hb2 u0 u1).2 hdb (by omega)
        · simp only [List.length_append, List.length_take, List.length_drop, List.length_cons, List.length_nil]; omega
      · walk_at "r"
        refine ⟨d.length, by rw [List.length_map]; rfl, lt60 (by omega), fun p1 H12 np1 k12 hp1 => ?_⟩
        walk_at "r"
        rw [List.length_map]
        have hlast : atI ((wn d.length).map V.int) (((wn d.length).length : Int) - 1) = some (.int ((wn d.length).getD ((wn d.length).length - 1) 0)) := by
          rw [show ((wn d.length).length : Int) - 1 = (((wn d.length).length - 1 : Nat) : Int) by omega]
          exact atI_nat (by rw [List.getElem?_map, List.getD_eq_getElem?_getD, List.getElem?_eq_getElem (by omega)]; rfl)
        generalize hLL : (wn d.length).getD ((wn d.length).length - 1) 0 = last at hlast
        walk_at "r"
        intro p2 H13 np2 k13 hp2
        walk_at "r"
        intro p3 H14 np3 k14 hp3
        walk_at "r"
        have D14 := D11.more (k12.trans (k13.trans k14))
        refine ⟨a, c, ns, 3, rfl, D14, by omega, fun v H15 v0 v1 k15 D15 => ?_⟩
        have e1 := (D11.fre np1).1
        have e2 := ((D11.more k12).fre np2).1
        have e3 := ((D11.more (k12.trans k13)).fre np3).1
        have hp1_15 := k15.get (carry0 k14 (carry0 k13 hp1)) (by simp [e1])
        have hp2_15 := k15.get (carry0 k14 hp2) (by simp [e2])
        have hp3_15 := k15.get hp3 (by simp [e3])
        have hr15 := k15.get (carry0 k14 (carry0 k13 (carry0 k12 hr11))) (by simp [nrp])
        have hf15 := k15.get (carry0 k14 (carry0 k13 (carry0 k12 hf11))) (by simp [nfp])
        have kk1 := k011.trans ((k12.trans (k13.trans k14)).any.trans k15)
        clear hr11 hf11 hd11 hp1 hp2 hp3 D11 D14
        refine w_rep hp3_15 ⟨by omega, by omega⟩ (by simp only [List.length_cons, List.length_nil, PySem.sizeLine_eq]; omega) (fun p4 H16 np4 k16 hp4 => ?_)
        rw [show (List.replicate v.toNat [V.int 128]).flatten = (List.replicate v.toNat (128 : Int)).map V.int by rw [List.map_replicate, List.flatten_replicate_singleton]] at hp4
        have hk : v.toNat ≤ 3 := by omega
        generalize v.toNat = kz at hp4 hk
        have hkl : (List.replicate kz (128 : Int)).length ≤ 3 := by rw [List.length_replicate]; exact hk
        generalize hRR : List.replicate kz (128 : Int) = rr at hp4 hkl
        walk_at "r"
        intro p5 H17 np5 k17 hp5
        walk_at "r"
        intro p6 H18 np6 k18 hp6
        walk_at "r"
        intro p7 H19 np7 k19 hp7
        have k1519 : Keep [] H15 H19 := k16.trans (k17.trans (k18.trans k19))
        have hp1_19 := carry0 k1519 hp1_15
        have hr19 := carry0 k1519 hr15
        have hf19 := carry0 k1519 hf15
        clear k16 k17 k18 k19 hp5 hp6 hp4 hp2_15 hp3_15 hr15 hf15 hp1_15
        walk_at "r"
        rw [List.length_map, show ((wn d.length).length : Int) - 1 = (((wn d.length).length - 1 : Nat) : Int) by omega, cutV_to, ← List.map_take]
        intro p8 H20 np8 k20 hp8
        walk_at "r"
        intro p9 H21 np9 k21 hp9
        have hr21 := carry0 k21 (carry0 k20 hr19)
        have hp1_21 := carry0 k21 (carry0 k20 hp1_19)
        walk_at "r"
        rw [List.length_map, cutV_from, ← List.map_drop]
        intro p10 H22 np10 k22 hp10
        walk_at "r"
        intro p11 H23 np11 k23 hp11
        have hf23 := carry0 k23 (carry0 k22 (carry0 k21 (carry0 k20 hf19)))
        walk_at "r"
        intro p12 H24 np12 k24 hp12
        have k1523 : Keep [] H15 H23 := k1519.trans (k20.trans (k21.trans (k22.trans k23)))
        have DD := D15.more k1523
        refine q p12 H24 ((wn d.length).take ((wn d.length).length - 1) ++ ([last + 128] ++ rr ++ [0]) ++ (My.rec d).drop (wn d.length).length ++ f) ((kk1.trans k1523.any).free np12 (fun z => (DD.fre np12).1 (by simpa using z))) (kk1.trans (k1523.any.trans k24.any)) (DD.more k24) (by rw [hp12]; simp only [List.map_append, List.map_cons, List.map_nil]) ?_ ?_
        · have := bad_long d ((My.rec d).drop (wn d.length).length ++ f) kz (by omega)
          rw [hLL, hRR, ← List.append_assoc] at this
          exact this
        · simp only [List.length_append, List.length_take, List.length_drop, List.length_cons, List.length_nil]; omega
    · walk_at "r"
      refine ⟨d.length, by rw [List.length_map]; rfl, lt60 (by omega), fun p1 H12 np1 k12 hp1 => ?_⟩
      walk_at "r"
      rw [List.length_map]
      have hlast : atI ((wn d.length).map V.int) (((wn d.length).length : Int) - 1) = some (.int ((wn d.length).getD ((wn d.length).length - 1) 0)) := by
        rw [show ((wn d.length).length : Int) - 1 = (((wn d.length).length - 1 : Nat) : Int) by omega]
        exact atI_nat (by rw [List.getElem?_map, List.getD_eq_getElem?_getD, List.getElem?_eq_getElem (by omega)]; rfl)
      generalize hLL : (wn d.length).getD ((wn d.length).length - 1) 0 = last at hlast
      walk_at "r"
      intro p2 H13 np2 k13 hp2
      walk_at "r"
      intro p3 H14 np3 k14 hp3
      walk_at "r"
      have D14 := D11.more (k12.trans (k13.trans k14))
      refine ⟨a, c, ns, 3, rfl, D14, by omega, fun v H15 v0 v1 k15 D15 => ?_⟩
      have e1 := (D11.fre np1).1
      have e2 := ((D11.more k12).fre np2).1
      have e3 := ((D11.more (k12.trans k13)).fre np3).1
      have hp1_15 := k15.get (carry0 k14 (carry0 k13 hp1)) (by simp [e1])
      have hp2_15 := k15.get (carry0 k14 hp2) (by simp [e2])
      have hp3_15 := k15.get hp3 (by simp [e3])
      have hr15 := k15.get (carry0 k14 (carry0 k13 (carry0 k12 hr11))) (by simp [nrp])
      have hf15 := k15.get (carry0 k14 (carry0 k13 (carry0 k12 hf11))) (by simp [nfp])
      have kk1 := k011.trans ((k12.trans (k13.trans k14)).any.trans k15)
      clear hr11 hf11 hd11 hp1 hp2 hp3 D11 D14
      refine w_rep hp3_15 ⟨by omega, by omega⟩ (by simp only [List.length_cons, List.length_nil, PySem.sizeLine_eq]; omega) (fun p4 H16 np4 k16 hp4 => ?_)
      rw [show (List.replicate v.toNat [V.int 128]).flatten = (List.replicate v.toNat (128 : Int)).map V.int by rw [List.map_replicate, List.flatten_replicate_singleton]] at hp4
      have hk : v.toNat ≤ 3 := by omega
      generalize v.toNat = kz at hp4 hk
      have hkl : (List.replicate kz (128 : Int)).length ≤ 3 := by rw [List.length_replicate]; exact hk
      generalize hRR : List.replicate kz (128 : Int) = rr at hp4 hkl
      walk_at "r"
      intro p5 H17 np5 k17 hp5
      walk_at "r"
      intro p6 H18 np6 k18 hp6
      walk_at "r"
      intro p7 H19 np7 k19 hp7
      have k1519 : Keep [] H15 H19 := k16.trans (k17.trans (k18.trans k19))
      have hp1_19 := carry0 k1519 hp1_15
      have hr19 := carry0 k1519 hr15
      have hf19 := carry0 k1519 hf15
      clear k16 k17 k18 k19 hp5 hp6 hp4 hp2_15 hp3_15 hr15 hf15 hp1_15
      walk_at "r"
      rw [List.length_map, show ((wn d.length).length : Int) - 1 = (((wn d.length).length - 1 : Nat) : Int) by omega, cutV_to, ← List.map_take]
      intro p8 H20 np8 k20 hp8
      walk_at "r"
      intro p9 H21 np9 k21 hp9
      have hr21 := carry0 k21 (carry0 k20 hr19)
      have hp1_21 := carry0 k21 (carry0 k20 hp1_19)
      walk_at "r"
      rw [List.length_map, cutV_from, ← List.map_drop]
      intro p10 H22 np10 k22 hp10
      walk_at "r"
      intro p11 H23 np11 k23 hp11
      have hf23 := carry0 k23 (carry0 k22 (carry0 k21 (carry0 k20 hf19)))
      walk_at "r"
      intro p12 H24 np12 k24 hp12
      have k1523 : Keep [] H15 H23 := k1519.trans (k20.trans (k21.trans (k22.trans k23)))
      have DD := D15.more k1523
      refine q p12 H24 ((wn d.length).take ((wn d.length).length - 1) ++ ([last + 128] ++ rr ++ [0]) ++ (My.rec d).drop (wn d.length).length ++ f) ((kk1.trans k1523.any).free np12 (fun z => (DD.fre np12).1 (by simpa using z))) (kk1.trans (k1523.any.trans k24.any)) (DD.more k24) (by rw [hp12]; simp only [List.map_append, List.map_cons, List.map_nil]) ?_ ?_
      · have := bad_long d ((My.rec d).drop (wn d.length).length ++ f) kz (by omega)
        rw [hLL, hRR, ← List.append_assoc] at this
        exact this
      · simp only [List.length_append, List.length_take, List.length_drop, List.length_cons, List.length_nil]; omega
end My

end
section
set_option maxHeartbeats 4000000
local macro_rules | `(tactic| walk_at "k") => `(tactic| first
  | assumption
  | exact W.Keep.trans (by assumption) (by assumption))
local macro_rules | `(tactic| walk_at "f") => `(tactic| first
  | assumption
  | exact L2.SqL.of (by assumption)
  | exact L2.SqT.of (by assumption)
  | exact L2.SqL.of L2.upd_same
  | exact L2.SqT.of L2.upd_same
  | exact L2.upd_same
  | exact W.carry0 (by assumption) (by assumption)
  | exact L2.SqL.of (W.carry0 (by assumption) (by assumption))
  | exact L2.SqT.of (W.carry0 (by assumption) (by assumption)))
local macro_rules | `(tactic| walk_at "a") => `(tactic| first
  | assumption
  | rfl)
local macro_rules | `(tactic| walk_at "n") => `(tactic| first
  | assumption
  | exact Nat.zero_le _
  | decide
  | (simp only [List.length_cons, List.length_nil]; decide)
  | omega
  | (simp only [PySem.sizeLine_eq]; omega)
  | (simp only [List.length_map, List.length_append, List.length_cons, List.length_nil, PySem.sizeLine_eq]; omega)
  | (simp only [List.length_map, List.length_append, List.length_cons, List.length_nil, List.length_take, List.length_drop, PySem.sizeLine_eq]; omega)
  | (simp only [List.length_map, List.length_append, List.length_cons, List.length_nil, PySem.sizeLine_eq] at *; omega))
local macro_rules | `(tactic| walk_at "c") => `(tactic| first
  | assumption
  | decide
  | exact And.intro (by decide) (by decide)
  | exact Or.inr (And.intro (by decide) (by decide))
  | exact Or.inl (And.intro (by decide) (by decide))
  | exact And.intro (by decide) (And.intro (by decide) (by decide))
  | exact (show (0 : Int) < _ by decide)
  | exact And.intro (by omega) (by omega)
  | exact Or.inl (And.intro (by omega) (by omega))
  | exact Or.inr (And.intro (by omega) (by omega))
  | exact (show (0 : Int) < _ by omega))
local macro_rules | `(tactic| walk_at "v") => `(tactic| with_reducible first
  | refine W.v0 ?_ | refine W.v1 ?_ | refine W.v2 ?_ | refine W.v3 ?_ | refine W.v4 ?_ | refine W.v5 ?_ | refine W.v6 ?_ | refine W.v7 ?_ | refine W.v8 ?_
  | refine W.v9 ?_ | refine W.v10 ?_ | refine W.v11 ?_ | refine W.v12 ?_ | refine W.v13 ?_ | refine W.v14 ?_ | refine W.v15 ?_ | refine W.v16 ?_ | refine W.v17 ?_
  | refine W.g0 ?_ | refine W.g1 ?_ | refine W.g2 ?_ | refine W.g3 ?_ | refine W.g4 ?_ | refine W.g5 ?_ | refine W.g6 ?_ | refine W.g7 ?_ | refine W.g8 ?_
  | refine W.g9 ?_ | refine W.g10 ?_ | refine W.g11 ?_ | refine W.g12 ?_ | refine W.g13 ?_ | refine W.g14 ?_ | refine W.g15 ?_)
local macro_rules | `(tactic| walk_at "e") => `(tactic| with_reducible first
  | refine W.e_c ?_ | refine W.e_op ?_ | refine W.s_seq ?_ | refine W.s_asg ?_ | refine W.e_CB ?_ | refine W.a_cons ?_ | refine W.a_nil ?_ | refine W.e_call ?_
  | refine W.t_test ?_ | refine W.w_B ?_ | refine W.s_if ?_ | refine W.s_ret ?_ | refine W.s_drop ?_ | refine W.e_un ?_ | refine W.e_fld ?_ | refine W.s_fld ?_
  | refine W.e_meth ?_ | refine W.e_if ?_ | refine W.e_lst ?_ | refine W.e_tup ?_ | refine W.e_sl ?_ | refine W.o_none ?_ | refine W.o_some ?_ | refine W.w_part ?_
  | refine W.e_bm ?_ | refine W.e_bm0 ?_ | refine W.t_B ?_ | refine W.t_and ?_ | refine W.t_or ?_ | refine W.t_not ?_ | refine W.e_andV ?_ | refine W.e_orV ?_ | refine W.e_notV ?_ | refine W.w_BV ?_ | refine W.e_chain ?_
  | refine W.s_aug ?_ | refine W.s_augS ?_ | refine W.s_next ?_ | refine W.s_brk ?_ | refine W.s_cont ?_ | refine W.s_retN ?_ | refine W.s_fa ?_ | refine W.e_make ?_ | refine W.w_make ?_
  | refine W.w_I0 ?_ | refine W.w_U ?_ | refine W.w_aug ?_ | refine W.w_eqI ?_ | refine W.w_neI ?_ | refine W.w_eqS ?_ | refine W.w_neS ?_ | refine W.w_eqB ?_ | refine W.w_neB ?_
  | refine W.w_int ?_ | refine W.w_intB ?_ | refine W.w_min ?_ | refine W.w_max ?_ | refine W.w_isN ?_ | refine W.w_isI ?_ | refine W.w_isS ?_ | refine W.w_isB ?_ | refine W.w_isR ?_
  | refine W.w_notN ?_ | refine W.w_notI ?_ | refine W.w_notR ?_ | refine W.w_notS ?_ | refine W.w_eqNI ?_ | refine W.w_neNI ?_ | refine W.w_eqN ?_ | refine W.w_neN ?_
  | refine W.s_forL ?_ | refine W.s_forT ?_ | refine W.s_forS ?_ | refine W.s_forR1 ?_ | refine W.s_forR2 ?_ | refine W.s_forR3 ?_ | refine W.s_forZ ?_ | refine W.s_forE ?_
  | refine W.e_lcL ?_ | refine W.e_lcR1 ?_ | refine W.e_lcR2 ?_ | refine W.e_lcZ ?_ | refine W.e_lcS ?_ | refine W.t_yes ?_ | refine W.w_gcons ?_ | refine W.w_gnil ?_ | refine W.s_par ?_ | refine W.w_par ?_ | refine W.g_sub ?_ | refine W.e_m1 ?_ | refine W.w_strR ?_ | refine W.w_rAdd ?_ | refine W.w_rSub ?_ | refine W.s_raise ?_ | refine W.s_try ?_ | refine W.e_methS ?_)
local macro_rules | `(tactic| walk_at "w") => `(tactic| first
  | ((with_reducible refine' W.w_I ?wh ?wq); (case wh => walk_at "c"))
  | ((with_reducible refine' W.w_ixL (n := 0) ?wh ?we ?wq); (case wh => walk_at "f"); (case we => walk_at "a"))
  | ((with_reducible refine' W.w_ixT (n := 0) ?wh ?we ?wq); (case wh => walk_at "f"); (case we => walk_at "a"))
  | ((with_reducible refine' W.w_lenL ?wh ?wq); (case wh => walk_at "f"))
  | ((with_reducible refine' W.w_lenT ?wh ?wq); (case wh => walk_at "f"))
  | ((with_reducible refine' W.w_lenS ?wh ?wq); (case wh => walk_at "n"))
  | ((with_reducible refine' W.w_app ?wh ?we ?wq); (case wh => walk_at "f"); (case we => walk_at "n"))
  | ((with_reducible refine' W.w_meth ?wh ?we ?wq); (case wh => walk_at "f"); (case we => first | assumption | rfl))
  | ((with_reducible refine' W.w_ixLTl ?wh ?we ?wq); (case wh => walk_at "f"); (case we => walk_at "a"))
  | ((with_reducible refine' W.w_ixLTt ?wh ?we ?wq); (case wh => walk_at "f"); (case we => walk_at "a"))
  | ((with_reducible refine' W.w_addS ?wh ?wq); (case wh => walk_at "n"))
  | ((with_reducible refine' W.w_set ?wh ?we ?wq); (case wh => walk_at "f"); (case we => walk_at "a"))
  | ((with_reducible refine' W.w_tup ?wh ?we ?wq); (case wh => walk_at "f"); (case we => first | assumption | rfl))
  | ((with_reducible refine' W.w_slS ?wh ?wq); (case wh => walk_at "n"))
  | ((with_reducible refine' W.w_rApp ?wh ?we ?wq); (case wh => walk_at "f"); (case we => walk_at "n"))
  | ((with_reducible refine' W.w_newL ?wh ?wq); (case wh => walk_at "n"))
  | ((with_reducible refine' W.w_newT ?wh ?wq); (case wh => walk_at "n"))
  | ((with_reducible refine' W.w_listL ?wh ?wq); (case wh => walk_at "f"))
  | ((with_reducible refine' W.w_tupL ?wh ?wq); (case wh => walk_at "f"))
  | ((with_reducible refine' W.w_slL ?wh ?wq); (case wh => walk_at "f"))
  | ((with_reducible refine' W.w_cat ?wh ?wf ?we ?wq); (case wh => walk_at "f"); (case wf => walk_at "f"); (case we => walk_at "n"))
  | ((with_reducible refine' W.w_ext ?wh ?wf ?we ?wq); (case wh => walk_at "f"); (case wf => walk_at "f"); (case we => walk_at "n"))
  | ((with_reducible refine' W.w_recv ?wh ?wq); (case wh => walk_at "f"))
  | ((with_reducible refine' W.w_isi1 ?wh ?we ?wq); (case wh => assumption); (case we => decide +kernel))
  | ((with_reducible refine' W.w_isi0 ?wh ?we ?wq); (case wh => assumption); (case we => decide +kernel))
  | ((with_reducible refine' W.w_isiT10 ?wh ?wf ?we ?wg ?wq); (case wh => assumption); (case wf => walk_at "f"); (case we => decide +kernel); (case wg => decide +kernel))
  | ((with_reducible refine' W.w_isiT01 ?wh ?wf ?we ?wg ?wq); (case wh => assumption); (case wf => walk_at "f"); (case we => decide +kernel); (case wg => decide +kernel))
  | ((with_reducible refine' W.w_isiT00 ?wh ?wf ?we ?wg ?wq); (case wh => assumption); (case wf => walk_at "f"); (case we => decide +kernel); (case wg => decide +kernel))
  | ((with_reducible refine' W.w_ins ?wh ?we ?wf ?wq); (case wh => walk_at "f"); (case we => walk_at "n"); (case wf => walk_at "c"))
  | ((with_reducible refine' W.w_unl ?wh ?we ?wq); (case wh => walk_at "f"); (case we => first | assumption | rfl))
  | ((with_reducible refine' W.ite_T ?_))
  | ((with_reducible refine' W.ite_F ?_))
  | ((with_reducible refine' W.ite_nT ?_))
  | ((with_reducible refine' W.ite_nF ?_))
  | ((with_reducible refine' W.ite_self ?_))
  | ((with_reducible refine' W.ite_nself ?_))
  | ((with_reducible refine' W.ite_tf ?_))
  | ((with_reducible refine' W.ite_ft ?_))
  | ((with_reducible refine' W.ite_ntf ?_))
  | ((with_reducible refine' W.ite_nft ?_))
  | ((with_reducible refine' And.intro ?wl ?wq); (case wl => rfl)))
local macro_rules | `(tactic| walk_at "i") => `(tactic| try (dsimp only [L2.cxOf, L2.wipe, List.map, List.set]))
local macro_rules | `(tactic| walk_at "s") => `(tactic| first | walk_at "v" | walk_at "e" | walk_at "w")
local macro_rules | `(tactic| walk_at "r") => `(tactic| repeat walk_at "s")

namespace My
open PySem L2 W
variable {P : Program} {w : World} {K : PySem.W.Frag} {mg : Str → Option Value} {base : Heap} {A : Adr}
def sp_law (K : PySem.W.Frag) : Sp := fun vs H Q _ => ∃ (s : Addr) (ns : List Int), vs = [.ref s] ∧ SqL K H s (ns.map V.int) ∧ ns.length ≤ 63 ∧ ∀ H', Q (.bl true) H'
theorem Drw.nints {H : Hp} {a c : Addr} {ns : List Int} (D : Drw a c ns H) (x : List Int) : H a ≠ some (.lst (x.map V.int)) := by
  obtain ⟨i, _, h, _⟩ := D
  intro z
  rw [h] at z
  cases x with
  | nil => cases z
  | cons y r => cases z
theorem Drw.get {H H' : Hp} {a c p : Addr} {ns x : List Int} (D : Drw a c ns H) (k : Keep [a] H H') (h : H p = some (.lst (x.map V.int))) : H' p = some (.lst (x.map V.int)) :=
  k.get h (fun z => by simp at z; subst z; exact D.nints x h)
theorem Drw.lsts {H H' : Hp} {a c : Addr} {ns : List Int} {vs : List V} {rs : List (List Int)} (D : Drw a c ns H) (k : Keep [a] H H') (h : Lsts H vs rs) : Lsts H' vs rs := Paired.mapP h fun _ _ ⟨t, e, q⟩ => ⟨t, e, D.get k q⟩
def lD (x : List Int) : PyData := .list (x.map .int)
theorem Lsts.da {H : Hp} : ∀ {vs : List V} {rs : List (List Int)}, Paired (fun v x => ∃ t, v = V.ref t ∧ H t = some (.lst (x.map V.int))) vs rs → DaL H (rs.map lD) vs
  | _, _, .nil => DaL.nil
  | _, _, .cons ⟨t, e, h⟩ r => by
    subst e
    exact DaL.cons (Da.lst h (DaL.ints _)) (Lsts.da r)
theorem lD_dep : ∀ rs : List (List Int), depL (rs.map lD) ≤ 1
  | [] => by simp [depL]
  | x :: r => by
    show max (depL (x.map PyData.int) + 1) (depL (r.map lD)) ≤ 1
    have := lD_dep r
    rw [depL_ints]; omega
theorem lD_wid (n : Nat) : ∀ rs : List (List Int), (∀ d ∈ rs, d.length ≤ n) → widL (rs.map lD) ≤ n
  | [], _ => by simp [widL]
  | x :: r, h => by
    show max (max (x.map PyData.int).length (widL (x.map PyData.int))) (widL (r.map lD)) ≤ n
    have := lD_wid n r (fun d hd => h d (by simp [hd]))
    have := h x (by simp)
    rw [widL_ints, List.length_map]; omega
theorem flat_rec : ∀ rs : List (List Int), (∀ d ∈ rs, d.length ≤ 2000) → (rs.flatMap My.rec).length ≤ rs.length * 2007
  | [], _ => by simp
  | d :: r, h => by
    have h1 := flat_rec r (fun z hz => h z (by simp [hz]))
    have h2 := h d (by simp)
    have h3 := wn_len3 (n := d.length) (by omega)
    rw [List.flatMap_cons, List.length_append, rec_len, List.length_cons, Nat.add_mul]
    omega
/-- the answer of read_records as data -/
def ansD (rs : List (List Int)) (n : Nat) : PyData := .tuple [.list (rs.map lD), .int (n : Int)]
theorem ansD_ok {H : Hp} {t p : Addr} {us : List V} {rs : List (List Int)} {n : Nat} (ht : H t = some (.tup [.ref p, .int (n : Int)])) (hp : H p = some (.lst us)) (h : Lsts H us rs) : Da H (ansD rs n) (.ref t) :=
  Da.tup ht (DaL.cons (Da.lst hp (Lsts.da h)) (DaL.cons Da.int DaL.nil))
theorem ansD_dep (rs : List (List Int)) (n : Nat) : dep (ansD rs n) ≤ 3 := by
  have := lD_dep rs
  show max (depL (rs.map lD) + 1) (max 0 0) + 1 ≤ 3
  omega
theorem ansD_wid (rs : List (List Int)) (n : Nat) (h : ∀ d ∈ rs, d.length ≤ 2000) (h2 : rs.length ≤ 1000) : wid (ansD rs n) ≤ 16777216 := by
  have := lD_wid 2000 rs h
  show max 2 (max (max (rs.map lD).length (widL (rs.map lD))) (max 0 0)) ≤ _
  rw [List.length_map]; omega
theorem ints_dep (x : List Int) : dep (lD x) ≤ 3 := by show depL (x.map PyData.int) + 1 ≤ 3; rw [depL_ints]; omega
theorem ints_wid (x : List Int) (h : x.length ≤ 1000000) : wid (lD x) ≤ 16777216 := by show max (x.map PyData.int).length (widL (x.map PyData.int)) ≤ _; rw [widL_ints, List.length_map]; omega
theorem ok_law (e : Env K mg A) : FnOk P w K mg base CX0 6 A.f_law A.d_law ["script"] (sp_law K) := by
  have G__law_next := ok__law_next (P := P) (w := w) (base := base) e
  have G__law_draws := ok__law_draws (P := P) (w := w) (base := base) e
  have G__law_bytes := ok__law_bytes (P := P) (w := w) (base := base) e
  have G__law_behind := ok__law_behind (P := P) (w := w) (base := base) e
  have G__law_checksum := ok__law_checksum (P := P) (w := w) (base := base) e
  have G__law_record := ok__law_record (P := P) (w := w) (base := base) e
  have G_checksum := ok_checksum (P := P) (w := w) (base := base) e
  have G_write_record := ok_write_record (P := P) (w := w) (base := base) e
  have G_read_records := ok_read_records (P := P) (w := w) (base := base) e
  have G__law_same := ok__law_same (P := P) (w := w) (base := base) e 4
  refine e.F_law.ok sc_law (fun vs H Q E h => ?_) (fun cdv AA outer s H vs Q E hr h => ?_)
  · obtain ⟨s, ns, rfl, _⟩ := h
    rfl
  · obtain ⟨sc0, ns, rfl, hS, hlen, q⟩ := h
    refine ⟨_, (pss_cons (ps_set (i := 1) sc_law.nd rfl (Or.inr rfl) (pe_lst (pa_cons (pe_call G__law_draws (hr.mono (by omega)) (by rfl) e.m__law_draws e.k__law_draws e.b__law_draws .nil pass0 (pa_cons (pv 0) pa_nil)) (pa_cons pe_int pa_nil))))
    (pss_cons (ps_setLc (i := 2) (own := [("k", 3)]) (by rfl) sc_law.nd rfl rfl (sw_true rfl rfl rfl (by decide +kernel)) (pi_range1 rfl e.n_range (pa_cons (pe_call G__law_next (hr.mono (by omega)) (by rfl) e.m__law_next e.k__law_next e.b__law_next .nil pass0 (pa_cons (pv 1) (pa_cons pe_int pa_nil))) pa_nil)) (blkOk_by (own := [("k", 3)]) (N := nm_law) (sc := defScope s_law) (by decide +kernel)) (fun _ _ _ _ _ => (pg_name (i := 3) sc_law.nd rfl (Or.inl rfl))) (fun _ _ _ _ _ => pts_nil) (fun _ _ _ _ _ => (pe_call G__law_bytes (hr.mono (by omega)) (by rfl) e.m__law_bytes e.k__law_bytes e.b__law_bytes .nil pass0 (pa_cons (pv 1) pa_nil))))
    (pss_cons (ps_set (i := 4) sc_law.nd rfl (Or.inl rfl) (pe_lst pa_nil))
    (pss_cons (ps_set (i := 5) sc_law.nd rfl (Or.inl rfl) (pe_lst (pa_cons pe_int pa_nil)))
    (pss_cons (ps_for PassesOwn.never rfl (pi_listK (K := K) (pv 2)) (pg_name (i := 6) sc_law.nd rfl (Or.inl rfl)) (pss_cons (ps_set (i := 7) sc_law.nd rfl (Or.inl rfl) (pe_callTy (call_listLK (K := K)) (by rfl) e.n_list (by decide +kernel) (pa_cons (pv 6) pa_nil)))
    (pss_cons (ps_if (PW.pt (pw_or (pt_not (pt_val (pe_call G__law_same (hr.mono (by omega)) (by rfl) e.m__law_same e.k__law_same e.b__law_same .nil pass0 (pa_cons (pe_call G_checksum (hr.mono (by omega)) (by rfl) e.m_checksum e.k_checksum e.b_checksum .nil pass0 (pa_cons (pv 7) pa_nil)) (pa_cons (pe_call G__law_checksum (hr.mono (by omega)) (by rfl) e.m__law_checksum e.k__law_checksum e.b__law_checksum .nil pass0 (pa_cons (pv 6) pa_nil)) pa_nil))))) (pw_or1 (pt_not (pt_val (pe_call G__law_same (hr.mono (by omega)) (by rfl) e.m__law_same e.k__law_same e.b__law_same .nil pass0 (pa_cons (pe_call G_write_record (hr.mono (by omega)) (by rfl) e.m_write_record e.k_write_record e.b_write_record .nil pass0 (pa_cons (pv 7) pa_nil)) (pa_cons (pe_call G__law_record (hr.mono (by omega)) (by rfl) e.m__law_record e.k__law_record e.b__law_record .nil pass0 (pa_cons (pv 6) pa_nil)) pa_nil)))))))) (pss_one (ps_ret pe_bl)) pss_nil)
    (pss_cons (ps_if (pt_cmpR (op_neDK hr.units (K := K)) (pv 7) (pv 6) (nomark _)) (pss_one (ps_ret pe_bl)) pss_nil)
    (pss_cons (ps_set (i := 4) sc_law.nd rfl (Or.inl rfl) (pe_op op_cat (pv 4) (pe_call G__law_record (hr.mono (by omega)) (by rfl) e.m__law_record e.k__law_record e.b__law_record .nil pass0 (pa_cons (pv 6) pa_nil))))
    (pss_one (ps_expr (pe_bmK (K := K) PySem.F.plainAttrs_list PySem.F.slot_list_append PySem.F.type_list_append mt_append (pv 5) (pa_cons (pe_callB (call_lenLK (K := K)) (by rfl) e.n_len (by decide +kernel) (pa_cons (pv 4) pa_nil)) pa_nil)))))))))
    (pss_cons (ps_set (i := 8) sc_law.nd rfl (Or.inl rfl) (pe_op op_cat (pv 4) (pe_call G__law_behind (hr.mono (by omega)) (by rfl) e.m__law_behind e.k__law_behind e.b__law_behind .nil pass0 (pa_cons (pv 1) pa_nil))))
    (pss_cons (ps_set (i := 7) sc_law.nd rfl (Or.inl rfl) (pe_callTy (call_listLK (K := K)) (by rfl) e.n_list (by decide +kernel) (pa_cons (pv 8) pa_nil)))
    (pss_cons (ps_if (PW.pt (pw_or (pt_not (pt_val (pe_call G__law_same (hr.mono (by omega)) (by rfl) e.m__law_same e.k__law_same e.b__law_same .nil pass0 (pa_cons (pe_call G_read_records (hr.mono (by omega)) (by rfl) e.m_read_records e.k_read_records e.b_read_records .nil pass0 (pa_cons (pv 7) pa_nil)) (pa_cons (pe_tup (pa_cons (pv 2) (pa_cons (pe_callB (call_lenLK (K := K)) (by rfl) e.n_len (by decide +kernel) (pa_cons (pv 4) pa_nil)) pa_nil))) pa_nil))))) (pw_or1 (pt_cmpR (op_neDK hr.units (K := K)) (pv 7) (pv 8) (nomark _))))) (pss_one (ps_ret pe_bl)) pss_nil)
    (pss_cons (ps_for PassesOwn.never rfl (pi_range1 rfl e.n_range (pa_cons pe_int pa_nil)) (pg_name (i := 3) sc_law.nd rfl (Or.inl rfl)) (pss_cons (ps_set (i := 9) sc_law.nd rfl (Or.inr rfl) (pe_call G__law_next (hr.mono (by omega)) (by rfl) e.m__law_next e.k__law_next e.b__law_next .nil pass0 (pa_cons (pv 1) (pa_cons (pe_op op_add (pe_callB (call_lenLK (K := K)) (by rfl) e.n_len (by decide +kernel) (pa_cons (pv 4) pa_nil)) pe_int) pa_nil))))
    (pss_cons (ps_set (i := 10) sc_law.nd rfl (Or.inl rfl) (pe_op op_sub (pe_callB (call_lenLK (K := K)) (by rfl) e.n_len (by decide +kernel) (pa_cons (pe_lc (own := [("size", 11)]) (by rfl) sc_law.nd (pi_listK (K := K) (pv 5)) (blkOk_by (own := [("size", 11)]) (N := nm_law) (sc := defScope s_law) (by decide +kernel)) (fun _ _ _ _ _ => (pg_name (i := 11) sc_law.nd rfl (Or.inl rfl))) (fun _ _ _ _ _ => pts_one (pt_cmpR op_le (pv 11) (pv 9) (nomark _))) (fun _ _ _ _ _ => (pv 11))) pa_nil)) pe_int))
    (pss_cons (ps_set (i := 7) sc_law.nd rfl (Or.inl rfl) (pe_slice (sl_listK (K := K)) (pv 4) po_none (po_some (pv 9))))
    (pss_one (ps_if (PW.pt (pw_or (pt_not (pt_val (pe_call G__law_same (hr.mono (by omega)) (by rfl) e.m__law_same e.k__law_same e.b__law_same .nil pass0 (pa_cons (pe_call G_read_records (hr.mono (by omega)) (by rfl) e.m_read_records e.k_read_records e.b_read_records .nil pass0 (pa_cons (pv 7) pa_nil)) (pa_cons (pe_tup (pa_cons (pe_slice (sl_listK (K := K)) (pv 2) po_none (po_some (pv 10))) (pa_cons (pe_ix (ix_listK (K := K)) (pv 5) (pv 10) (fun _ _ => rfl)) pa_nil))) pa_nil))))) (pw_or1 (pt_cmpR (op_neDK hr.units (K := K)) (pv 7) (pe_slice (sl_listK (K := K)) (pv 4) po_none (po_some (pv 9))) (nomark _))))) (pss_one (ps_ret pe_bl)) pss_nil))))))
    (pss_one (ps_ret (pe_and (pe_call G__law_same (hr.mono (by omega)) (by rfl) e.m__law_same e.k__law_same e.b__law_same .nil pass0 (pa_cons (pe_call G_read_records (hr.mono (by omega)) (by rfl) e.m_read_records e.k_read_records e.b_read_records .nil pass0 (pa_cons (pe_lst pa_nil) pa_nil)) (pa_cons (pe_tup (pa_cons (pe_lst pa_nil) (pa_cons pe_int pa_nil))) pa_nil))) (pe_one (pe_call G__law_same (hr.mono (by omega)) (by rfl) e.m__law_same e.k__law_same e.b__law_same .nil pass0 (pa_cons (pe_call G_write_record (hr.mono (by omega)) (by rfl) e.m_write_record e.k_write_record e.b_write_record .nil pass0 (pa_cons (pe_lst pa_nil) pa_nil)) (pa_cons (pe_lst (pa_cons pe_int (pa_cons pe_int (pa_cons pe_int (pa_cons pe_int (pa_cons pe_int pa_nil)))))) pa_nil)))))))))))))))), ?_⟩
    refine enter (st_law _) ?_
    walk_at "i"
    walk_at "r"
    refine ⟨sc0, ns, rfl, hS, hlen, fun c H1 ds nc k1 hc => ?_⟩
    walk_at "r"
    intro a H2 na k2 ha
    have D2 : Drw a c ds H2 := ⟨20, by omega, ha, k2.get hc (by simp)⟩
    walk_at "r"
    refine ⟨a, c, ds, 11, rfl, D2, by omega, fun n H3 n0 n1 k3 D3 => ?_⟩
    clear ha hc k1 k2 k3 na nc D2 hS
    walk_at "r"
    refine lcR1 (by omega) (by omega) (fun R i H' => Keep [a] H3 H' ∧ Drw a c ds H' ∧ ∃ us rs, H' R = some (.lst us) ∧ Lsts H' us rs ∧ us.length = i ∧ (∀ d ∈ rs, d.length ≤ 2000)) (fun R H4 nR k4 h4 => ⟨k4.any, D3.more k4, [], [], h4, .nil, rfl, by simp⟩) ?_ ?_
    · rintro R i H4 nR hi ⟨k4, D4, us, rs, hR, hL, hl, hb⟩
      have nRa := (D3.fre nR).1
      walk_at "i"
      walk_at "r"
      refine ⟨a, c, ds, rfl, D4, fun p H5 d np k5 D5 hp _ hpl => ?_⟩
      have hR5 := k5.get hR (by simp [nRa])
      walk_at "r"
      intro H6 k6 h6
      have npR : p ≠ R := fun z => by rw [z, hR] at np; cases np
      refine ⟨(k4.trans k5).mut nR k6, D5.mut k6 (D3.fre nR), _, rs ++ [d], h6, ?_, by simp [hl], ?_⟩
      · exact Paired.snoc (Lsts.mut hR5 k6 (D4.lsts k5 hL)) ⟨p, rfl, k6.get hp (by simp [npR])⟩
      · intro z hz
        rcases List.mem_append.mp hz with z1 | z1
        · exact hb z z1
        · rw [List.mem_singleton] at z1; subst z1; exact hpl
    · rintro R H4 nR ⟨k4, D4, us, rs, hR, hL, hl, hb⟩
      have nRa := (D3.fre nR).1
      have hrl : rs.length ≤ 10 := by have := Paired.length hL; omega
      clear k4 D3 nR
      walk_at "r"
      intro d0 H5 nd0 k5 hd0
      walk_at "r"
      intro S H6 nS k6 hS
      have D5 := D4.more k5
      have hSa := (D5.fre nS).1
      have hR5 := carry0 k5 hR
      have hR6 := carry0 k6 hR5
      have hL5 : Lsts H5 us rs := hL.mono k5
      have hfl : (rs.flatMap My.rec).length ≤ 20070 := by have := flat_rec rs hb; omega
      walk_at "r"
      refine forL (SqL.of hR6) (fun i σ H' => ∃ (v3 v6 v7 : Option V) (dp : Addr), σ = [some (.ref sc0), some (.ref a), some (.ref R), v3, some (.ref dp), some (.ref S), v6, v7, none, none, none, none] ∧ Keep [] H5 H' ∧ H' S = some (.lst ((cum 0 (rs.take i)).map fun z : Nat => V.int (z : Int))) ∧ H' dp = some (.lst (((rs.take i).flatMap My.rec).map V.int)))
        ⟨_, _, _, d0, rfl, k6, hS, carry0 k6 hd0⟩ (fun i σ H' _ h => ?_) ?_ ?_
      · obtain ⟨_, _, _, _, _, k, _⟩ := h
        exact SqL.of (carry0 k hR5)
      · rintro i x σ H7 hx ⟨v3, v6, v7, dp, rfl, k7, hS7, hdp⟩
        obtain ⟨d, hd, t, rfl, ht⟩ := pd_get hL5 hx
        have ht7 := carry0 k7 ht
        have hdl := hb d (List.mem_of_getElem? hd)
        have hrl2 : (My.rec d).length ≤ 2007 := by have := wn_len3 (n := d.length) (by omega); rw [rec_len]; omega
        have hfl2 : ((rs.take i).flatMap My.rec).length ≤ 20070 := by
          have := flat_rec (rs.take i) (fun z hz => hb z (List.mem_of_mem_take hz))
          rw [List.length_take] at this
          omega
        have hcl : (cum 0 (rs.take i)).length ≤ 11 := by rw [cum_len, List.length_take]; omega
        walk_at "r"
        intro pp H8 npp k8 hpp
        walk_at "r"
        refine ⟨pp, d, rfl, hpp, ?_⟩
        walk_at "r"
        have ht8 := carry0 k8 ht7
        refine ⟨t, d, rfl, ht8, ?_⟩
        walk_at "r"
        refine ⟨.int (ck d), .int (ck d), .int (ck d), rfl, Da.int, Da.int, by simp [dep], by simp [wid], fun H9 k9 => ?_⟩
        walk_at "r"
        have hpp9 := carry0 k9 hpp
        have ht9 := carry0 k9 ht8
        refine ⟨pp, d, rfl, hpp9, by omega, fun w1 H10 nw1 k10 hw1 => ?_⟩
        walk_at "r"
        have ht10 := carry0 k10 ht9
        refine ⟨t, d, rfl, ht10, by omega, fun w2 H11 nw2 k11 hw2 => ?_⟩
        walk_at "r"
        refine ⟨.ref w1, .ref w2, lD (My.rec d), rfl, Da.lst (carry0 k11 hw1) (DaL.ints _), Da.lst hw2 (DaL.ints _), ints_dep _, ints_wid _ (by omega), fun H12 k12 => ?_⟩
        have k912 : Keep [] H9 H12 := k10.trans (k11.trans k12)
        have hpp12 := carry0 k912 hpp9
        have ht12 := carry0 k912 ht9
        have k712 : Keep [] H7 H12 := k8.trans (k9.trans k912)
        clear k8 k9 k10 k11 k12 hpp ht7 ht8 hw1 hw2 k912 hpp9 ht9 ht10
        walk_at "r"
        refine w_neL hpp12 ht12 ?_
        walk_at "r"
        refine ⟨t, d, rfl, ht12, by omega, fun w3 H13 nw3 k13 hw3 => ?_⟩
        have hdp13 := carry0 k13 (carry0 k712 hdp)
        walk_at "r"
        intro w4 H14 nw4 k14 hw4
        have hS14 := carry0 k14 (carry0 k13 (carry0 k712 hS7))
        walk_at "r"
        intro H15 k15 h15
        have k514 : Keep [] H5 H14 := k7.trans (k712.trans (k13.trans k14))
        have nw4S : w4 ≠ S := fun z => by subst z; rw [(carry0 k13 (carry0 k712 hS7))] at nw4; cases nw4
        refine ⟨_, _, _, w4, rfl, k514.mut nS k15, ?_, ?_⟩
        · rw [h15, List.take_add_one, hd]
          show _ = some (HO.lst ((cum 0 (rs.take i ++ [d])).map fun z : Nat => V.int (z : Int)))
          rw [cum_snoc, List.map_append, List.length_append, List.length_map, List.length_map, Nat.zero_add]; rfl
        · rw [k15.get hw4 (by simp [nw4S]), List.take_add_one, hd]
          show _ = some (HO.lst (((rs.take i ++ [d]).flatMap My.rec).map V.int))
          rw [List.flatMap_append, List.map_append]; simp
      · rintro σ H7 ⟨v3, v6, v7, dp, rfl, k7, hS7, hdp⟩
        have hul : us.length = rs.length := Paired.length hL
        rw [hul, List.take_length] at hS7 hdp
        have D7 := D5.more k7
        have hR7 := carry0 k7 hR5
        have hL7 : Lsts H7 us rs := hL5.mono k7
        have hRa : R ≠ a := nRa
        have hb1 : ∀ d ∈ rs, d.length ≤ 1000000 := fun d hd => by have := hb d hd; omega
        clear k7 D5 D4 k5 k6 hS hR hL hR5 hL5 hR6 hd0 nd0 nS
        walk_at "r"
        refine ⟨a, c, ds, rfl, D7, fun bp H8 l nb k8 D8 hbp hBad hbl => ?_⟩
        have hdp8 := D7.get k8 hdp
        have hS8 := k8.get hS7 (by simp [hSa])
        have hR8 := k8.get hR7 (by simp [hRa])
        have hL8 := D7.lsts k8 hL7
        clear hdp hS7 hR7 hL7 D7
        walk_at "r"
        intro wp H9 nwp k9 hwp
        walk_at "r"
        intro pp H10 npp k10 hpp
        walk_at "r"
        rw [← List.map_append] at hwp hpp
        have hRr := Rr.of rs [] l hb1 hBad
        rw [List.nil_append, List.length_nil, Nat.zero_add] at hRr
        refine ⟨pp, rs.flatMap My.rec ++ l, rs, (rs.flatMap My.rec).length, rfl, hpp, by rw [List.length_append]; omega, hRr, by omega, fun t1 p1 us1 H11 nt1 k11 ht1 hp1 hL1 => ?_⟩
        have hdp11 := carry0 k11 (carry0 k10 (carry0 k9 hdp8))
        walk_at "r"
        rw [List.length_map]
        intro t2 H12 nt2 k12 ht2
        have k812 : Keep [] H8 H12 := k9.trans (k10.trans (k11.trans k12))
        have hwp12 := carry0 k12 (carry0 k11 (carry0 k10 hwp))
        have hpp12 := carry0 k12 (carry0 k11 hpp)
        have hR12 := carry0 k812 hR8
        refine ⟨.ref t1, .ref t2, ansD rs (rs.flatMap My.rec).length, rfl, ansD_ok (carry0 k12 ht1) (carry0 k12 hp1) (hL1.mono k12), ansD_ok ht2 hR12 (hL8.mono k812), ansD_dep _ _, ansD_wid _ _ hb (by omega), fun H13 k13 => ?_⟩
        have hwp13 := carry0 k13 hwp12
        have hpp13 := carry0 k13 hpp12
        have k813 : Keep [] H8 H13 := k812.trans k13
        have D13 := D8.more k813
        have hdp13 := carry0 k813 hdp8
        have hS13 := carry0 k813 hS8
        have hR13 := carry0 k813 hR8
        have hL13 := hL8.mono k813
        clear k9 k10 k11 k12 k13 k812 k813 hwp hpp ht1 hp1 hL1 ht2 hwp12 hpp12 hR12 hdp8 hS8 hR8 hL8 D8 hdp11 nwp npp nt1 nt2
        walk_at "r"
        refine w_neL hpp13 hwp13 ?_
        walk_at "r"
        refine forR1 (by omega) (by omega) (fun i σ H' => ∃ (v3 v6 v7 v9 v10 : Option V), σ = [some (.ref sc0), some (.ref a), some (.ref R), v3, some (.ref dp), some (.ref S), v6, v7, some (.ref wp), v9, v10, none] ∧ Keep [a] H13 H' ∧ Drw a c ds H')
          ⟨_, _, _, _, _, rfl, Keep.refl, D13⟩ ?_ ?_
        · rintro i σ H14 hi ⟨v3, v6, v7, v9, v10, rfl, k14, D14⟩
          have hdp14 := D13.get k14 hdp13
          have hS14 := k14.get hS13 (by simp [hSa])
          have hR14 := k14.get hR13 (by simp [hRa])
          have hL14 := D13.lsts k14 hL13
          walk_at "r"
          rw [List.length_map]
          refine ⟨a, c, ds, _, rfl, D14, by omega, fun v H15 v0 v1 k15 D15 => ?_⟩
          obtain ⟨en, rfl⟩ := Int.eq_ofNat_of_zero_le v0
          have hdp15 := D14.get k15 hdp14
          have hS15 := k15.get hS14 (by simp [hSa])
          have hR15 := k15.get hR14 (by simp [hRa])
          have hL15 := D14.lsts k15 hL14
          have k1315 : Keep [a] H13 H15 := k14.trans k15
          clear k14 k15 hdp14 hS14 hR14 hL14 D14
          obtain ⟨cn, l2, hcn, hfil, htk, hbad2⟩ := cum_cut rs 0 en (by omega) (by omega) hb1
          rw [Nat.sub_zero] at htk
          have hcl : (cum 0 rs).length ≤ 11 := by rw [cum_len]; omega
          walk_at "r"
          refine lcL (SqL.of hS15) (fun L i H' => Keep [] H15 H' ∧ H' L = some (.lst ((((cum 0 rs).take i).filter (fun z => decide (z ≤ en))).map fun z : Nat => V.int (z : Int)))) (fun L H16 nL k16 h16 => ⟨k16, h16⟩) (fun L i H' _ h => SqL.of (carry0 h.1 hS15)) ?_ ?_
          · rintro L j x H16 nL ex ⟨k16, h16⟩
            rw [List.getElem?_map] at ex
            cases hz : (cum 0 rs)[j]? with
            | none => rw [hz] at ex; cases ex
            | some z =>
              rw [hz] at ex
              cases ex
              have hfl3 : (((cum 0 rs).take j).filter (fun z => decide (z ≤ en))).length ≤ 11 := by
                have := List.length_filter_le (fun z => decide (z ≤ en)) ((cum 0 rs).take j)
                rw [List.length_take] at this
                omega
              walk_at "i"
              walk_at "r"
              refine ite_dec (fun hle => ?_) (fun hle => ?_)
              · walk_at "r"
                intro H17 k17 h17
                refine ⟨k16.mut nL k17, ?_⟩
                rw [h17, List.take_add_one, hz, Option.toList_some, List.filter_append, List.filter_cons, if_pos (by simp; omega), List.map_append]; rfl
              · refine ⟨k16, ?_⟩
                rw [h16, List.take_add_one, hz, Option.toList_some, List.filter_append, List.filter_cons, if_neg (by simp; omega), List.filter_nil, List.append_nil]
          · rintro L H16 nL ⟨k16, h16⟩
            rw [List.length_map, List.take_length] at h16
            have D16 := D15.more k16
            have hdp16 := carry0 k16 hdp15
            have hS16 := carry0 k16 hS15
            have hR16 := carry0 k16 hR15
            have hL16 := hL15.mono k16
            have k1316 : Keep [a] H13 H16 := k1315.trans k16.any
            clear k16 hdp15 hS15 hR15 hL15 D15 nL k1315
            walk_at "r"
            rw [List.length_map, hfil, show ((cn + 1 : Nat) : Int) - 1 = (cn : Int) by omega, cutV_to, ← List.map_take, htk]
            intro pp H17 npp k17 hpp
            have hrl3 : ((rs.take cn).flatMap My.rec ++ l2).length ≤ 20070 := by rw [← htk, List.length_take]; omega
            have hRr := Rr.of (rs.take cn) [] l2 (fun z hz => hb1 z (List.mem_of_mem_take hz)) hbad2
            rw [List.nil_append, List.length_nil, Nat.zero_add] at hRr
            walk_at "r"
            refine ⟨pp, (rs.take cn).flatMap My.rec ++ l2, rs.take cn, ((rs.take cn).flatMap My.rec).length, rfl, hpp, by omega, hRr, by rw [List.length_take]; omega, fun t1 p1 us1 H18 nt1 k18 ht1 hp1 hL1 => ?_⟩
            have hR18 := carry0 k18 (carry0 k17 hR16)
            have hS18 := carry0 k18 (carry0 k17 hS16)
            walk_at "r"
            rw [cutV_to]
            intro r2 H19 nr2 k19 hr2
            have hS19 := carry0 k19 hS18
            have hcg : atI ((cum 0 rs).map fun z : Nat => V.int (z : Int)) (cn : Int) = some (.int (((rs.take cn).flatMap My.rec).length : Int)) := atI_nat (by
              rw [List.getElem?_map, cum_get rs 0 cn hcn, Nat.zero_add]; rfl)
            walk_at "r"
            intro t2 H20 nt2 k20 ht2
            have k1620 : Keep [] H16 H20 := k17.trans (k18.trans (k19.trans k20))
            have hL20 : Lsts H20 (us.take cn) (rs.take cn) := pd_take cn (hL16.mono k1620)
            refine ⟨.ref t1, .ref t2, ansD (rs.take cn) ((rs.take cn).flatMap My.rec).length, rfl, ansD_ok (carry0 k20 (carry0 k19 ht1)) (carry0 k20 (carry0 k19 hp1)) (hL1.mono (k19.trans k20)), ansD_ok ht2 (carry0 k20 hr2) hL20, ansD_dep _ _, ansD_wid _ _ (fun d hd => hb d (List.mem_of_mem_take hd)) (by rw [List.length_take]; omega), fun H21 k21 => ?_⟩
            have hpp21 := carry0 k21 (carry0 (k18.trans (k19.trans k20)) hpp)
            have hdp21 := carry0 k21 (carry0 k1620 hdp16)
            have D21 := (D16.more k1620).more k21
            have k1321 := k1316.trans (k1620.trans k21).any
            clear k17 k18 k19 k20 k21 k1620 hL20 ht2 hr2 hS19 hS18 hR18 ht1 hp1 hL1 hpp hdp16 hS16 hR16 hL16 D16
            walk_at "r"
            rw [cutV_to, ← List.map_take, htk]
            intro x2 H22 nx2 k22 hx2
            refine w_neL (carry0 k22 hpp21) hx2 ?_
            walk_at "r"
            exact ⟨_, _, _, _, _, rfl, k1321.trans k22.any, D21.more k22⟩
        · rintro σ H14 ⟨v3, v6, v7, v9, v10, rfl, k14, D14⟩
          clear k14 hwp13 hpp13 hdp13 hS13 hR13 hL13
          walk_at "r"
          intro e1 H15 ne1 k15 he1
          have hRr : Rr [] 0 [] 0 := .stop (bad_nil [])
          walk_at "r"
          refine ⟨e1, [], [], 0, rfl, he1, by simp, hRr, by simp, fun t1 p1 us1 H18 nt1 k18 ht1 hp1 hL1 => ?_⟩
          walk_at "r"
          intro e2 H16 ne2 k16 he2
          walk_at "r"
          intro t2 H17 nt2 k17 ht2
          refine ⟨.ref t1, .ref t2, ansD [] 0, rfl, ansD_ok (carry0 k17 (carry0 k16 ht1)) (carry0 k17 (carry0 k16 hp1)) (hL1.mono (k16.trans k17)), ansD_ok ht2 (carry0 k17 he2) .nil, ansD_dep _ _, ansD_wid _ _ (by simp) (by simp), fun H19 k19 => ?_⟩
          walk_at "r"
          intro e3 H20 ne3 k20 he3
          walk_at "r"
          refine ⟨e3, [], rfl, he3, by simp, fun w1 H21 nw1 k21 hw1 => ?_⟩
          walk_at "r"
          intro w2 H22 nw2 k22 hw2
          have er : My.rec [] = [0, 0, 0, 0, 7] := by unfold My.rec; rw [wn_lo (by decide)]; rfl
          rw [er] at hw1
          refine ⟨.ref w1, .ref w2, lD [0, 0, 0, 0, 7], rfl, Da.lst (carry0 k22 hw1) (DaL.ints _), Da.lst hw2 (DaL.ints [0, 0, 0, 0, 7]), ints_dep _, ints_wid _ (by decide), fun H23 k23 => ?_⟩
          walk_at "r"
          exact q _
end My

end
section
set_option maxHeartbeats 8000000
namespace My
open PySem L2 W
theorem all_mk {K : PySem.W.Frag} {h : Heap} {mg : Str → Option Value} {fa : Addr} (X : K.In h) (G : h.Ns mainGlobals mg) (hfa : mg "law" = some (.ref fa))
    {C_PlanwholeError : Addr}
    {C_DamagedPacket : Addr}
    {C_Reader : Addr}
    {od0 an0 : Option Addr} {sl0 : Array (Option Value)} {oc0 kV0 dc0 pm0 cd0 ct0 : Value} {f0 : Addr}
    {od1 an1 : Option Addr} {sl1 : Array (Option Value)} {oc1 kV1 dc1 pm1 cd1 ct1 : Value} {f1 : Addr}
    {od2 an2 : Option Addr} {sl2 : Array (Option Value)} {oc2 kV2 dc2 pm2 cd2 ct2 : Value} {f2 : Addr}
    {od3 an3 : Option Addr} {sl3 : Array (Option Value)} {oc3 kV3 dc3 pm3 cd3 ct3 : Value} {f3 : Addr}
    {od4 an4 : Option Addr} {sl4 : Array (Option Value)} {oc4 kV4 dc4 pm4 cd4 ct4 : Value} {f4 : Addr}
    {od5 an5 : Option Addr} {sl5 : Array (Option Value)} {oc5 kV5 dc5 pm5 cd5 ct5 : Value} {f5 : Addr}
    {od6 an6 : Option Addr} {sl6 : Array (Option Value)} {oc6 kV6 dc6 pm6 cd6 ct6 : Value} {f6 : Addr}
    {od7 an7 : Option Addr} {sl7 : Array (Option Value)} {oc7 kV7 dc7 pm7 cd7 ct7 : Value} {f7 : Addr}
    {od8 an8 : Option Addr} {sl8 : Array (Option Value)} {oc8 kV8 dc8 pm8 cd8 ct8 : Value} {f8 : Addr}
    {od9 an9 : Option Addr} {sl9 : Array (Option Value)} {oc9 kV9 dc9 pm9 cd9 ct9 : Value} {f9 : Addr}
    {od10 an10 : Option Addr} {sl10 : Array (Option Value)} {oc10 kV10 dc10 pm10 cd10 ct10 : Value} {f10 : Addr}
    {od11 an11 : Option Addr} {sl11 : Array (Option Value)} {oc11 kV11 dc11 pm11 cd11 ct11 : Value} {f11 : Addr}
    {od12 an12 : Option Addr} {sl12 : Array (Option Value)} {oc12 kV12 dc12 pm12 cd12 ct12 : Value} {f12 : Addr}
    {od13 an13 : Option Addr} {sl13 : Array (Option Value)} {oc13 kV13 dc13 pm13 cd13 ct13 : Value} {f13 : Addr}
    {od14 an14 : Option Addr} {sl14 : Array (Option Value)} {oc14 kV14 dc14 pm14 cd14 ct14 : Value} {f14 : Addr}
    {od15 an15 : Option Addr} {sl15 : Array (Option Value)} {oc15 kV15 dc15 pm15 cd15 ct15 : Value} {f15 : Addr}
    {od16 an16 : Option Addr} {sl16 : Array (Option Value)} {oc16 kV16 dc16 pm16 cd16 ct16 : Value} {f16 : Addr}
    {od17 an17 : Option Addr} {sl17 : Array (Option Value)} {oc17 kV17 dc17 pm17 cd17 ct17 : Value} {f17 : Addr}
    {od18 an18 : Option Addr} {sl18 : Array (Option Value)} {oc18 kV18 dc18 pm18 cd18 ct18 : Value} {f18 : Addr}
    {od19 an19 : Option Addr} {sl19 : Array (Option Value)} {oc19 kV19 dc19 pm19 cd19 ct19 : Value} {f19 : Addr}
    {od20 an20 : Option Addr} {sl20 : Array (Option Value)} {oc20 kV20 dc20 pm20 cd20 ct20 : Value} {f20 : Addr}
    {od21 an21 : Option Addr} {sl21 : Array (Option Value)} {oc21 kV21 dc21 pm21 cd21 ct21 : Value} {f21 : Addr}
    {od22 an22 : Option Addr} {sl22 : Array (Option Value)} {oc22 kV22 dc22 pm22 cd22 ct22 : Value} {f22 : Addr}
    {od23 an23 : Option Addr} {sl23 : Array (Option Value)} {oc23 kV23 dc23 pm23 cd23 ct23 : Value} {f23 : Addr}
    {od24 an24 : Option Addr} {sl24 : Array (Option Value)} {oc24 kV24 dc24 pm24 cd24 ct24 : Value} {f24 : Addr}
    {od25 an25 : Option Addr} {sl25 : Array (Option Value)} {oc25 kV25 dc25 pm25 cd25 ct25 : Value} {f25 : Addr}
    {od26 an26 : Option Addr} {sl26 : Array (Option Value)} {oc26 kV26 dc26 pm26 cd26 ct26 : Value} {f26 : Addr}
    {od27 an27 : Option Addr} {sl27 : Array (Option Value)} {oc27 kV27 dc27 pm27 cd27 ct27 : Value} {f27 : Addr}
    {od28 an28 : Option Addr} {sl28 : Array (Option Value)} {oc28 kV28 dc28 pm28 cd28 ct28 : Value} {f28 : Addr}
    {od29 an29 : Option Addr} {sl29 : Array (Option Value)} {oc29 kV29 dc29 pm29 cd29 ct29 : Value} {f29 : Addr}
    {od30 an30 : Option Addr} {sl30 : Array (Option Value)} {oc30 kV30 dc30 pm30 cd30 ct30 : Value} {f30 : Addr}
    {od31 an31 : Option Addr} {sl31 : Array (Option Value)} {oc31 kV31 dc31 pm31 cd31 ct31 : Value} {f31 : Addr}
    {t_NUMBER_BYTES : Tok}
    {t_CHECKSUM_LIMIT : Tok}
    (aC_PlanwholeError : PySem.W.nsIn K mainGlobals "PlanwholeError" = some (some (.ref C_PlanwholeError)))
    (aC_DamagedPacket : PySem.W.nsIn K mainGlobals "DamagedPacket" = some (some (.ref C_DamagedPacket)))
    (aC_Reader : PySem.W.nsIn K mainGlobals "Reader" = some (some (.ref C_Reader)))
    (a0 : PySem.W.nsIn K mainGlobals "_wall" = some (some (.ref f0)))
    (l0 : K.lookup f0 = some ⟨oc0, od0, .func (PySem.W.fnOf "_wall" "_wall" (defArgs s__wall) (defBody s__wall) (defScope s__wall) .none kV0 dc0 pm0 an0 cd0 ct0), sl0⟩)
    (c0 : PySem.W.codeIn K cd0 "_wall" = true)
    (k0 : PySem.W.keepIn K (.ref f0) = true)
    (a1 : PySem.W.findIn K (.ref C_Reader) "__init__" = some (some (.ref f1)))
    (i1 : PySem.W.isFn K (.ref f1) = true)
    (l1 : K.lookup f1 = some ⟨oc1, od1, .func (PySem.W.fnOf "__init__" "Reader.__init__" (defArgs s_Reader___init__) (defBody s_Reader___init__) (defScope s_Reader___init__) .none kV1 dc1 pm1 an1 cd1 ct1), sl1⟩)
    (c1 : PySem.W.codeIn K cd1 "Reader.__init__" = true)
    (k1 : PySem.W.keepIn K (.ref f1) = true)
    (a2 : PySem.W.findIn K (.ref C_Reader) "read_byte" = some (some (.ref f2)))
    (i2 : PySem.W.isFn K (.ref f2) = true)
    (l2 : K.lookup f2 = some ⟨oc2, od2, .func (PySem.W.fnOf "read_byte" "Reader.read_byte" (defArgs s_Reader_read_byte) (defBody s_Reader_read_byte) (defScope s_Reader_read_byte) .none kV2 dc2 pm2 an2 cd2 ct2), sl2⟩)
    (c2 : PySem.W.codeIn K cd2 "Reader.read_byte" = true)
    (k2 : PySem.W.keepIn K (.ref f2) = true)
    (a3 : PySem.W.findIn K (.ref C_Reader) "read_choice" = some (some (.ref f3)))
    (i3 : PySem.W.isFn K (.ref f3) = true)
    (l3 : K.lookup f3 = some ⟨oc3, od3, .func (PySem.W.fnOf "read_choice" "Reader.read_choice" (defArgs s_Reader_read_choice) (defBody s_Reader_read_choice) (defScope s_Reader_read_choice) .none kV3 dc3 pm3 an3 cd3 ct3), sl3⟩)
    (c3 : PySem.W.codeIn K cd3 "Reader.read_choice" = true)
    (k3 : PySem.W.keepIn K (.ref f3) = true)
    (a4 : PySem.W.findIn K (.ref C_Reader) "end" = some (some (.ref f4)))
    (i4 : PySem.W.isFn K (.ref f4) = true)
    (l4 : K.lookup f4 = some ⟨oc4, od4, .func (PySem.W.fnOf "end" "Reader.end" (defArgs s_Reader_end) (defBody s_Reader_end) (defScope s_Reader_end) .none kV4 dc4 pm4 an4 cd4 ct4), sl4⟩)
    (c4 : PySem.W.codeIn K cd4 "Reader.end" = true)
    (k4 : PySem.W.keepIn K (.ref f4) = true)
    (a5 : PySem.W.findIn K (.ref C_Reader) "read_number" = some (some (.ref f5)))
    (i5 : PySem.W.isFn K (.ref f5) = true)
    (l5 : K.lookup f5 = some ⟨oc5, od5, .func (PySem.W.fnOf "read_number" "Reader.read_number" (defArgs s_Reader_read_number) (defBody s_Reader_read_number) (defScope s_Reader_read_number) .none kV5 dc5 pm5 an5 cd5 ct5), sl5⟩)
    (c5 : PySem.W.codeIn K cd5 "Reader.read_number" = true)
    (k5 : PySem.W.keepIn K (.ref f5) = true)
    (a6 : PySem.W.findIn K (.ref C_Reader) "read_count" = some (some (.ref f6)))
    (i6 : PySem.W.isFn K (.ref f6) = true)
    (l6 : K.lookup f6 = some ⟨oc6, od6, .func (PySem.W.fnOf "read_count" "Reader.read_count" (defArgs s_Reader_read_count) (defBody s_Reader_read_count) (defScope s_Reader_read_count) .none kV6 dc6 pm6 an6 cd6 ct6), sl6⟩)
    (c6 : PySem.W.codeIn K cd6 "Reader.read_count" = true)
    (k6 : PySem.W.keepIn K (.ref f6) = true)
    (a7 : PySem.W.findIn K (.ref C_Reader) "read_character" = some (some (.ref f7)))
    (i7 : PySem.W.isFn K (.ref f7) = true)
    (l7 : K.lookup f7 = some ⟨oc7, od7, .func (PySem.W.fnOf "read_character" "Reader.read_character" (defArgs s_Reader_read_character) (defBody s_Reader_read_character) (defScope s_Reader_read_character) .none kV7 dc7 pm7 an7 cd7 ct7), sl7⟩)
    (c7 : PySem.W.codeIn K cd7 "Reader.read_character" = true)
    (k7 : PySem.W.keepIn K (.ref f7) = true)
    (a8 : PySem.W.findIn K (.ref C_Reader) "read_string" = some (some (.ref f8)))
    (i8 : PySem.W.isFn K (.ref f8) = true)
    (l8 : K.lookup f8 = some ⟨oc8, od8, .func (PySem.W.fnOf "read_string" "Reader.read_string" (defArgs s_Reader_read_string) (defBody s_Reader_read_string) (defScope s_Reader_read_string) .none kV8 dc8 pm8 an8 cd8 ct8), sl8⟩)
    (c8 : PySem.W.codeIn K cd8 "Reader.read_string" = true)
    (k8 : PySem.W.keepIn K (.ref f8) = true)
    (a9 : PySem.W.findIn K (.ref C_Reader) "read_mark" = some (some (.ref f9)))
    (i9 : PySem.W.isFn K (.ref f9) = true)
    (l9 : K.lookup f9 = some ⟨oc9, od9, .func (PySem.W.fnOf "read_mark" "Reader.read_mark" (defArgs s_Reader_read_mark) (defBody s_Reader_read_mark) (defScope s_Reader_read_mark) .none kV9 dc9 pm9 an9 cd9 ct9), sl9⟩)
    (c9 : PySem.W.codeIn K cd9 "Reader.read_mark" = true)
    (k9 : PySem.W.keepIn K (.ref f9) = true)
    (a10 : PySem.W.findIn K (.ref C_Reader) "read_deed" = some (some (.ref f10)))
    (i10 : PySem.W.isFn K (.ref f10) = true)
    (l10 : K.lookup f10 = some ⟨oc10, od10, .func (PySem.W.fnOf "read_deed" "Reader.read_deed" (defArgs s_Reader_read_deed) (defBody s_Reader_read_deed) (defScope s_Reader_read_deed) .none kV10 dc10 pm10 an10 cd10 ct10), sl10⟩)
    (c10 : PySem.W.codeIn K cd10 "Reader.read_deed" = true)
    (k10 : PySem.W.keepIn K (.ref f10) = true)
    (a11 : PySem.W.findIn K (.ref C_Reader) "read_deeds" = some (some (.ref f11)))
    (i11 : PySem.W.isFn K (.ref f11) = true)
    (l11 : K.lookup f11 = some ⟨oc11, od11, .func (PySem.W.fnOf "read_deeds" "Reader.read_deeds" (defArgs s_Reader_read_deeds) (defBody s_Reader_read_deeds) (defScope s_Reader_read_deeds) .none kV11 dc11 pm11 an11 cd11 ct11), sl11⟩)
    (c11 : PySem.W.codeIn K cd11 "Reader.read_deeds" = true)
    (k11 : PySem.W.keepIn K (.ref f11) = true)
    (a12 : PySem.W.findIn K (.ref C_Reader) "read_triple" = some (some (.ref f12)))
    (i12 : PySem.W.isFn K (.ref f12) = true)
    (l12 : K.lookup f12 = some ⟨oc12, od12, .func (PySem.W.fnOf "read_triple" "Reader.read_triple" (defArgs s_Reader_read_triple) (defBody s_Reader_read_triple) (defScope s_Reader_read_triple) .none kV12 dc12 pm12 an12 cd12 ct12), sl12⟩)
    (c12 : PySem.W.codeIn K cd12 "Reader.read_triple" = true)
    (k12 : PySem.W.keepIn K (.ref f12) = true)
    (a13 : PySem.W.findIn K (.ref C_Reader) "read_triples" = some (some (.ref f13)))
    (i13 : PySem.W.isFn K (.ref f13) = true)
    (l13 : K.lookup f13 = some ⟨oc13, od13, .func (PySem.W.fnOf "read_triples" "Reader.read_triples" (defArgs s_Reader_read_triples) (defBody s_Reader_read_triples) (defScope s_Reader_read_triples) .none kV13 dc13 pm13 an13 cd13 ct13), sl13⟩)
    (c13 : PySem.W.codeIn K cd13 "Reader.read_triples" = true)
    (k13 : PySem.W.keepIn K (.ref f13) = true)
    (a14 : PySem.W.findIn K (.ref C_Reader) "read_packet" = some (some (.ref f14)))
    (i14 : PySem.W.isFn K (.ref f14) = true)
    (l14 : K.lookup f14 = some ⟨oc14, od14, .func (PySem.W.fnOf "read_packet" "Reader.read_packet" (defArgs s_Reader_read_packet) (defBody s_Reader_read_packet) (defScope s_Reader_read_packet) .none kV14 dc14 pm14 an14 cd14 ct14), sl14⟩)
    (c14 : PySem.W.codeIn K cd14 "Reader.read_packet" = true)
    (k14 : PySem.W.keepIn K (.ref f14) = true)
    (a15 : PySem.W.nsIn K mainGlobals "write_number" = some (some (.ref f15)))
    (l15 : K.lookup f15 = some ⟨oc15, od15, .func (PySem.W.fnOf "write_number" "write_number" (defArgs s_write_number) (defBody s_write_number) (defScope s_write_number) .none kV15 dc15 pm15 an15 cd15 ct15), sl15⟩)
    (c15 : PySem.W.codeIn K cd15 "write_number" = true)
    (k15 : PySem.W.keepIn K (.ref f15) = true)
    (a16 : PySem.W.nsIn K mainGlobals "checksum" = some (some (.ref f16)))
    (l16 : K.lookup f16 = some ⟨oc16, od16, .func (PySem.W.fnOf "checksum" "checksum" (defArgs s_checksum) (defBody s_checksum) (defScope s_checksum) .none kV16 dc16 pm16 an16 cd16 ct16), sl16⟩)
    (c16 : PySem.W.codeIn K cd16 "checksum" = true)
    (k16 : PySem.W.keepIn K (.ref f16) = true)
    (a17 : PySem.W.nsIn K mainGlobals "write_record" = some (some (.ref f17)))
    (l17 : K.lookup f17 = some ⟨oc17, od17, .func (PySem.W.fnOf "write_record" "write_record" (defArgs s_write_record) (defBody s_write_record) (defScope s_write_record) .none kV17 dc17 pm17 an17 cd17 ct17), sl17⟩)
    (c17 : PySem.W.codeIn K cd17 "write_record" = true)
    (k17 : PySem.W.keepIn K (.ref f17) = true)
    (a18 : PySem.W.nsIn K mainGlobals "_read_size" = some (some (.ref f18)))
    (l18 : K.lookup f18 = some ⟨oc18, od18, .func (PySem.W.fnOf "_read_size" "_read_size" (defArgs s__read_size) (defBody s__read_size) (defScope s__read_size) .none kV18 dc18 pm18 an18 cd18 ct18), sl18⟩)
    (c18 : PySem.W.codeIn K cd18 "_read_size" = true)
    (k18 : PySem.W.keepIn K (.ref f18) = true)
    (a19 : PySem.W.nsIn K mainGlobals "read_records" = some (some (.ref f19)))
    (l19 : K.lookup f19 = some ⟨oc19, od19, .func (PySem.W.fnOf "read_records" "read_records" (defArgs s_read_records) (defBody s_read_records) (defScope s_read_records) .none kV19 dc19 pm19 an19 cd19 ct19), sl19⟩)
    (c19 : PySem.W.codeIn K cd19 "read_records" = true)
    (k19 : PySem.W.keepIn K (.ref f19) = true)
    (a20 : PySem.W.nsIn K mainGlobals "_law_mix" = some (some (.ref f20)))
    (l20 : K.lookup f20 = some ⟨oc20, od20, .func (PySem.W.fnOf "_law_mix" "_law_mix" (defArgs s__law_mix) (defBody s__law_mix) (defScope s__law_mix) .none kV20 dc20 pm20 an20 cd20 ct20), sl20⟩)
    (c20 : PySem.W.codeIn K cd20 "_law_mix" = true)
    (k20 : PySem.W.keepIn K (.ref f20) = true)
    (a21 : PySem.W.nsIn K mainGlobals "_law_draws" = some (some (.ref f21)))
    (l21 : K.lookup f21 = some ⟨oc21, od21, .func (PySem.W.fnOf "_law_draws" "_law_draws" (defArgs s__law_draws) (defBody s__law_draws) (defScope s__law_draws) .none kV21 dc21 pm21 an21 cd21 ct21), sl21⟩)
    (c21 : PySem.W.codeIn K cd21 "_law_draws" = true)
    (k21 : PySem.W.keepIn K (.ref f21) = true)
    (a22 : PySem.W.nsIn K mainGlobals "_law_at" = some (some (.ref f22)))
    (l22 : K.lookup f22 = some ⟨oc22, od22, .func (PySem.W.fnOf "_law_at" "_law_at" (defArgs s__law_at) (defBody s__law_at) (defScope s__law_at) .none kV22 dc22 pm22 an22 cd22 ct22), sl22⟩)
    (c22 : PySem.W.codeIn K cd22 "_law_at" = true)
    (k22 : PySem.W.keepIn K (.ref f22) = true)
    (a23 : PySem.W.nsIn K mainGlobals "_law_is_integer" = some (some (.ref f23)))
    (l23 : K.lookup f23 = some ⟨oc23, od23, .func (PySem.W.fnOf "_law_is_integer" "_law_is_integer" (defArgs s__law_is_integer) (defBody s__law_is_integer) (defScope s__law_is_integer) .none kV23 dc23 pm23 an23 cd23 ct23), sl23⟩)
    (c23 : PySem.W.codeIn K cd23 "_law_is_integer" = true)
    (k23 : PySem.W.keepIn K (.ref f23) = true)
    (a24 : PySem.W.nsIn K mainGlobals "_law_same" = some (some (.ref f24)))
    (l24 : K.lookup f24 = some ⟨oc24, od24, .func (PySem.W.fnOf "_law_same" "_law_same" (defArgs s__law_same) (defBody s__law_same) (defScope s__law_same) .none kV24 dc24 pm24 an24 cd24 ct24), sl24⟩)
    (c24 : PySem.W.codeIn K cd24 "_law_same" = true)
    (k24 : PySem.W.keepIn K (.ref f24) = true)
    (a25 : PySem.W.nsIn K mainGlobals "_law_next" = some (some (.ref f25)))
    (l25 : K.lookup f25 = some ⟨oc25, od25, .func (PySem.W.fnOf "_law_next" "_law_next" (defArgs s__law_next) (defBody s__law_next) (defScope s__law_next) .none kV25 dc25 pm25 an25 cd25 ct25), sl25⟩)
    (c25 : PySem.W.codeIn K cd25 "_law_next" = true)
    (k25 : PySem.W.keepIn K (.ref f25) = true)
    (a26 : PySem.W.nsIn K mainGlobals "_law_number" = some (some (.ref f26)))
    (l26 : K.lookup f26 = some ⟨oc26, od26, .func (PySem.W.fnOf "_law_number" "_law_number" (defArgs s__law_number) (defBody s__law_number) (defScope s__law_number) .none kV26 dc26 pm26 an26 cd26 ct26), sl26⟩)
    (c26 : PySem.W.codeIn K cd26 "_law_number" = true)
    (k26 : PySem.W.keepIn K (.ref f26) = true)
    (a27 : PySem.W.nsIn K mainGlobals "_law_checksum" = some (some (.ref f27)))
    (l27 : K.lookup f27 = some ⟨oc27, od27, .func (PySem.W.fnOf "_law_checksum" "_law_checksum" (defArgs s__law_checksum) (defBody s__law_checksum) (defScope s__law_checksum) .none kV27 dc27 pm27 an27 cd27 ct27), sl27⟩)
    (c27 : PySem.W.codeIn K cd27 "_law_checksum" = true)
    (k27 : PySem.W.keepIn K (.ref f27) = true)
    (a28 : PySem.W.nsIn K mainGlobals "_law_record" = some (some (.ref f28)))
    (l28 : K.lookup f28 = some ⟨oc28, od28, .func (PySem.W.fnOf "_law_record" "_law_record" (defArgs s__law_record) (defBody s__law_record) (defScope s__law_record) .none kV28 dc28 pm28 an28 cd28 ct28), sl28⟩)
    (c28 : PySem.W.codeIn K cd28 "_law_record" = true)
    (k28 : PySem.W.keepIn K (.ref f28) = true)
    (a29 : PySem.W.nsIn K mainGlobals "_law_bytes" = some (some (.ref f29)))
    (l29 : K.lookup f29 = some ⟨oc29, od29, .func (PySem.W.fnOf "_law_bytes" "_law_bytes" (defArgs s__law_bytes) (defBody s__law_bytes) (defScope s__law_bytes) .none kV29 dc29 pm29 an29 cd29 ct29), sl29⟩)
    (c29 : PySem.W.codeIn K cd29 "_law_bytes" = true)
    (k29 : PySem.W.keepIn K (.ref f29) = true)
    (a30 : PySem.W.nsIn K mainGlobals "_law_behind" = some (some (.ref f30)))
    (l30 : K.lookup f30 = some ⟨oc30, od30, .func (PySem.W.fnOf "_law_behind" "_law_behind" (defArgs s__law_behind) (defBody s__law_behind) (defScope s__law_behind) .none kV30 dc30 pm30 an30 cd30 ct30), sl30⟩)
    (c30 : PySem.W.codeIn K cd30 "_law_behind" = true)
    (k30 : PySem.W.keepIn K (.ref f30) = true)
    (a31 : PySem.W.nsIn K mainGlobals "law" = some (some (.ref f31)))
    (l31 : K.lookup f31 = some ⟨oc31, od31, .func (PySem.W.fnOf "law" "law" (defArgs s_law) (defBody s_law) (defScope s_law) .none kV31 dc31 pm31 an31 cd31 ct31), sl31⟩)
    (c31 : PySem.W.codeIn K cd31 "law" = true)
    (k31 : PySem.W.keepIn K (.ref f31) = true)
    (pg_Reader : PySem.W.plainGet K C_Reader Str.empty = true)
    (hd_Reader : PySem.W.hasDictIn K C_Reader = true)
    (po_Reader : PySem.W.plainOver K C_Reader = true)
    (sa_Reader : PySem.W.findIn K (.ref C_Reader) "__setattr__" = some (some (.builtin "object.__setattr__")))
    (mk_Reader : PySem.W.makesIn K C_Reader = true)
    (kc_Reader : PySem.W.keepIn K (.ref C_Reader) = true)
    (x_Reader_data : PySem.W.findIn K (.ref C_Reader) "data" = some none)
    (x_Reader_at : PySem.W.findIn K (.ref C_Reader) "at" = some none)
    (xx_PlanwholeError : PySem.W.excIn K C_PlanwholeError [.type "ValueError", .type "Exception", .type "BaseException", .type "object"] "ValueError.__new__" = true)
    (kk_PlanwholeError : PySem.W.keepIn K (.ref C_PlanwholeError) = true)
    (bb_PlanwholeError : PySem.W.subIn K (.ref C_PlanwholeError) (.type "BaseException") = some true)
    (tt_PlanwholeError : PySem.W.typeIn K (.ref C_PlanwholeError) = some (.type "type"))
    (ii_PlanwholeError : PySem.W.isClsIn K C_PlanwholeError = true)
    (sub_PlanwholeError_PlanwholeError : PySem.W.subIn K (.ref C_PlanwholeError) (.ref C_PlanwholeError) = some true)
    (xx_DamagedPacket : PySem.W.excIn K C_DamagedPacket [.type "ValueError", .type "Exception", .type "BaseException", .type "object"] "ValueError.__new__" = true)
    (kk_DamagedPacket : PySem.W.keepIn K (.ref C_DamagedPacket) = true)
    (bb_DamagedPacket : PySem.W.subIn K (.ref C_DamagedPacket) (.type "BaseException") = some true)
    (tt_DamagedPacket : PySem.W.typeIn K (.ref C_DamagedPacket) = some (.type "type"))
    (ii_DamagedPacket : PySem.W.isClsIn K C_DamagedPacket = true)
    (sub_DamagedPacket_DamagedPacket : PySem.W.subIn K (.ref C_DamagedPacket) (.ref C_DamagedPacket) = some true)
    (ac_NUMBER_BYTES : PySem.W.nsIn K mainGlobals "NUMBER_BYTES" = some (some (.int 60 t_NUMBER_BYTES)))
    (ac_CHECKSUM_LIMIT : PySem.W.nsIn K mainGlobals "CHECKSUM_LIMIT" = some (some (.int 4294967296 t_CHECKSUM_LIMIT)))
    (z_bool : PySem.W.nsIn K mainGlobals "bool" = some none)
    (z_int : PySem.W.nsIn K mainGlobals "int" = some none)
    (z_isinstance : PySem.W.nsIn K mainGlobals "isinstance" = some none)
    (z_len : PySem.W.nsIn K mainGlobals "len" = some none)
    (z_list : PySem.W.nsIn K mainGlobals "list" = some none)
    (z_min : PySem.W.nsIn K mainGlobals "min" = some none)
    (z_range : PySem.W.nsIn K mainGlobals "range" = some none)
    (z_str : PySem.W.nsIn K mainGlobals "str" = some none)
    (z_tuple : PySem.W.nsIn K mainGlobals "tuple" = some none) :
    ∃ A : Adr, Env K mg A ∧ A.f_law = fa ∧ ∀ (s : Shared) (v : Value), BindsTo s A.d_law ⟨[v], []⟩ [("script", v)] := by
  have e := hfa.symm.trans (PySem.W.mg_of X G a31)
  cases e
  have F0 := fun_mk (st := s__wall) l0 c0 k0
  have F1 := fun_mk (st := s_Reader___init__) l1 c1 k1
  have F2 := fun_mk (st := s_Reader_read_byte) l2 c2 k2
  have F3 := fun_mk (st := s_Reader_read_choice) l3 c3 k3
  have F4 := fun_mk (st := s_Reader_end) l4 c4 k4
  have F5 := fun_mk (st := s_Reader_read_number) l5 c5 k5
  have F6 := fun_mk (st := s_Reader_read_count) l6 c6 k6
  have F7 := fun_mk (st := s_Reader_read_character) l7 c7 k7
  have F8 := fun_mk (st := s_Reader_read_string) l8 c8 k8
  have F9 := fun_mk (st := s_Reader_read_mark) l9 c9 k9
  have F10 := fun_mk (st := s_Reader_read_deed) l10 c10 k10
  have F11 := fun_mk (st := s_Reader_read_deeds) l11 c11 k11
  have F12 := fun_mk (st := s_Reader_read_triple) l12 c12 k12
  have F13 := fun_mk (st := s_Reader_read_triples) l13 c13 k13
  have F14 := fun_mk (st := s_Reader_read_packet) l14 c14 k14
  have F15 := fun_mk (st := s_write_number) l15 c15 k15
  have F16 := fun_mk (st := s_checksum) l16 c16 k16
  have F17 := fun_mk (st := s_write_record) l17 c17 k17
  have F18 := fun_mk (st := s__read_size) l18 c18 k18
  have F19 := fun_mk (st := s_read_records) l19 c19 k19
  have F20 := fun_mk (st := s__law_mix) l20 c20 k20
  have F21 := fun_mk (st := s__law_draws) l21 c21 k21
  have F22 := fun_mk (st := s__law_at) l22 c22 k22
  have F23 := fun_mk (st := s__law_is_integer) l23 c23 k23
  have F24 := fun_mk (st := s__law_same) l24 c24 k24
  have F25 := fun_mk (st := s__law_next) l25 c25 k25
  have F26 := fun_mk (st := s__law_number) l26 c26 k26
  have F27 := fun_mk (st := s__law_checksum) l27 c27 k27
  have F28 := fun_mk (st := s__law_record) l28 c28 k28
  have F29 := fun_mk (st := s__law_bytes) l29 c29 k29
  have F30 := fun_mk (st := s__law_behind) l30 c30 k30
  have F31 := fun_mk (st := s_law) l31 c31 k31
  exact ⟨{
      f__wall := f0,
      d__wall := (PySem.W.fnOf "_wall" "_wall" (defArgs s__wall) (defBody s__wall) (defScope s__wall) .none kV0 dc0 pm0 an0 cd0 ct0),
      f_Reader___init__ := f1,
      d_Reader___init__ := (PySem.W.fnOf "__init__" "Reader.__init__" (defArgs s_Reader___init__) (defBody s_Reader___init__) (defScope s_Reader___init__) .none kV1 dc1 pm1 an1 cd1 ct1),
      f_Reader_read_byte := f2,
      d_Reader_read_byte := (PySem.W.fnOf "read_byte" "Reader.read_byte" (defArgs s_Reader_read_byte) (defBody s_Reader_read_byte) (defScope s_Reader_read_byte) .none kV2 dc2 pm2 an2 cd2 ct2),
      f_Reader_read_choice := f3,
      d_Reader_read_choice := (PySem.W.fnOf "read_choice" "Reader.read_choice" (defArgs s_Reader_read_choice) (defBody s_Reader_read_choice) (defScope s_Reader_read_choice) .none kV3 dc3 pm3 an3 cd3 ct3),
      f_Reader_end := f4,
      d_Reader_end := (PySem.W.fnOf "end" "Reader.end" (defArgs s_Reader_end) (defBody s_Reader_end) (defScope s_Reader_end) .none kV4 dc4 pm4 an4 cd4 ct4),
      f_Reader_read_number := f5,
      d_Reader_read_number := (PySem.W.fnOf "read_number" "Reader.read_number" (defArgs s_Reader_read_number) (defBody s_Reader_read_number) (defScope s_Reader_read_number) .none kV5 dc5 pm5 an5 cd5 ct5),
      f_Reader_read_count := f6,
      d_Reader_read_count := (PySem.W.fnOf "read_count" "Reader.read_count" (defArgs s_Reader_read_count) (defBody s_Reader_read_count) (defScope s_Reader_read_count) .none kV6 dc6 pm6 an6 cd6 ct6),
      f_Reader_read_character := f7,
      d_Reader_read_character := (PySem.W.fnOf "read_character" "Reader.read_character" (defArgs s_Reader_read_character) (defBody s_Reader_read_character) (defScope s_Reader_read_character) .none kV7 dc7 pm7 an7 cd7 ct7),
      f_Reader_read_string := f8,
      d_Reader_read_string := (PySem.W.fnOf "read_string" "Reader.read_string" (defArgs s_Reader_read_string) (defBody s_Reader_read_string) (defScope s_Reader_read_string) .none kV8 dc8 pm8 an8 cd8 ct8),
      f_Reader_read_mark := f9,
      d_Reader_read_mark := (PySem.W.fnOf "read_mark" "Reader.read_mark" (defArgs s_Reader_read_mark) (defBody s_Reader_read_mark) (defScope s_Reader_read_mark) .none kV9 dc9 pm9 an9 cd9 ct9),
      f_Reader_read_deed := f10,
      d_Reader_read_deed := (PySem.W.fnOf "read_deed" "Reader.read_deed" (defArgs s_Reader_read_deed) (defBody s_Reader_read_deed) (defScope s_Reader_read_deed) .none kV10 dc10 pm10 an10 cd10 ct10),
      f_Reader_read_deeds := f11,
      d_Reader_read_deeds := (PySem.W.fnOf "read_deeds" "Reader.read_deeds" (defArgs s_Reader_read_deeds) (defBody s_Reader_read_deeds) (defScope s_Reader_read_deeds) .none kV11 dc11 pm11 an11 cd11 ct11),
      f_Reader_read_triple := f12,
      d_Reader_read_triple := (PySem.W.fnOf "read_triple" "Reader.read_triple" (defArgs s_Reader_read_triple) (defBody s_Reader_read_triple) (defScope s_Reader_read_triple) .none kV12 dc12 pm12 an12 cd12 ct12),
      f_Reader_read_triples := f13,
      d_Reader_read_triples := (PySem.W.fnOf "read_triples" "Reader.read_triples" (defArgs s_Reader_read_triples) (defBody s_Reader_read_triples) (defScope s_Reader_read_triples) .none kV13 dc13 pm13 an13 cd13 ct13),
      f_Reader_read_packet := f14,
      d_Reader_read_packet := (PySem.W.fnOf "read_packet" "Reader.read_packet" (defArgs s_Reader_read_packet) (defBody s_Reader_read_packet) (defScope s_Reader_read_packet) .none kV14 dc14 pm14 an14 cd14 ct14),
      f_write_number := f15,
      d_write_number := (PySem.W.fnOf "write_number" "write_number" (defArgs s_write_number) (defBody s_write_number) (defScope s_write_number) .none kV15 dc15 pm15 an15 cd15 ct15),
      f_checksum := f16,
      d_checksum := (PySem.W.fnOf "checksum" "checksum" (defArgs s_checksum) (defBody s_checksum) (defScope s_checksum) .none kV16 dc16 pm16 an16 cd16 ct16),
      f_write_record := f17,
      d_write_record := (PySem.W.fnOf "write_record" "write_record" (defArgs s_write_record) (defBody s_write_record) (defScope s_write_record) .none kV17 dc17 pm17 an17 cd17 ct17),
      f__read_size := f18,
      d__read_size := (PySem.W.fnOf "_read_size" "_read_size" (defArgs s__read_size) (defBody s__read_size) (defScope s__read_size) .none kV18 dc18 pm18 an18 cd18 ct18),
      f_read_records := f19,
      d_read_records := (PySem.W.fnOf "read_records" "read_records" (defArgs s_read_records) (defBody s_read_records) (defScope s_read_records) .none kV19 dc19 pm19 an19 cd19 ct19),
      f__law_mix := f20,
      d__law_mix := (PySem.W.fnOf "_law_mix" "_law_mix" (defArgs s__law_mix) (defBody s__law_mix) (defScope s__law_mix) .none kV20 dc20 pm20 an20 cd20 ct20),
      f__law_draws := f21,
      d__law_draws := (PySem.W.fnOf "_law_draws" "_law_draws" (defArgs s__law_draws) (defBody s__law_draws) (defScope s__law_draws) .none kV21 dc21 pm21 an21 cd21 ct21),
      f__law_at := f22,
      d__law_at := (PySem.W.fnOf "_law_at" "_law_at" (defArgs s__law_at) (defBody s__law_at) (defScope s__law_at) .none kV22 dc22 pm22 an22 cd22 ct22),
      f__law_is_integer := f23,
      d__law_is_integer := (PySem.W.fnOf "_law_is_integer" "_law_is_integer" (defArgs s__law_is_integer) (defBody s__law_is_integer) (defScope s__law_is_integer) .none kV23 dc23 pm23 an23 cd23 ct23),
      f__law_same := f24,
      d__law_same := (PySem.W.fnOf "_law_same" "_law_same" (defArgs s__law_same) (defBody s__law_same) (defScope s__law_same) .none kV24 dc24 pm24 an24 cd24 ct24),
      f__law_next := f25,
      d__law_next := (PySem.W.fnOf "_law_next" "_law_next" (defArgs s__law_next) (defBody s__law_next) (defScope s__law_next) .none kV25 dc25 pm25 an25 cd25 ct25),
      f__law_number := f26,
      d__law_number := (PySem.W.fnOf "_law_number" "_law_number" (defArgs s__law_number) (defBody s__law_number) (defScope s__law_number) .none kV26 dc26 pm26 an26 cd26 ct26),
      f__law_checksum := f27,
      d__law_checksum := (PySem.W.fnOf "_law_checksum" "_law_checksum" (defArgs s__law_checksum) (defBody s__law_checksum) (defScope s__law_checksum) .none kV27 dc27 pm27 an27 cd27 ct27),
      f__law_record := f28,
      d__law_record := (PySem.W.fnOf "_law_record" "_law_record" (defArgs s__law_record) (defBody s__law_record) (defScope s__law_record) .none kV28 dc28 pm28 an28 cd28 ct28),
      f__law_bytes := f29,
      d__law_bytes := (PySem.W.fnOf "_law_bytes" "_law_bytes" (defArgs s__law_bytes) (defBody s__law_bytes) (defScope s__law_bytes) .none kV29 dc29 pm29 an29 cd29 ct29),
      f__law_behind := f30,
      d__law_behind := (PySem.W.fnOf "_law_behind" "_law_behind" (defArgs s__law_behind) (defBody s__law_behind) (defScope s__law_behind) .none kV30 dc30 pm30 an30 cd30 ct30),
      f_law := fa,
      d_law := (PySem.W.fnOf "law" "law" (defArgs s_law) (defBody s_law) (defScope s_law) .none kV31 dc31 pm31 an31 cd31 ct31),
      C_PlanwholeError := C_PlanwholeError,
      C_DamagedPacket := C_DamagedPacket,
      C_Reader := C_Reader,
      v_NUMBER_BYTES := (.int 60 t_NUMBER_BYTES),
      v_CHECKSUM_LIMIT := (.int 4294967296 t_CHECKSUM_LIMIT) }, {
      F__wall := F0,
      b__wall := F0.binds (ps := ["k"]) fun _ _ _ _ _ _ us hl => match us, hl with | [_], _ => rfl,
      m__wall := PySem.W.mg_of X G a0,
      k__wall := k0,
      F_Reader___init__ := F1,
      b_Reader___init__ := F1.binds (ps := ["self", "data"]) fun _ _ _ _ _ _ us hl => match us, hl with | [_, _], _ => rfl,
      h_Reader___init__ := ⟨a1, i1, k1⟩,
      F_Reader_read_byte := F2,
      b_Reader_read_byte := F2.binds (ps := ["self"]) fun _ _ _ _ _ _ us hl => match us, hl with | [_], _ => rfl,
      h_Reader_read_byte := ⟨a2, i2, k2⟩,
      F_Reader_read_choice := F3,
      b_Reader_read_choice := F3.binds (ps := ["self", "count"]) fun _ _ _ _ _ _ us hl => match us, hl with | [_, _], _ => rfl,
      h_Reader_read_choice := ⟨a3, i3, k3⟩,
      F_Reader_end := F4,
      b_Reader_end := F4.binds (ps := ["self"]) fun _ _ _ _ _ _ us hl => match us, hl with | [_], _ => rfl,
      h_Reader_end := ⟨a4, i4, k4⟩,
      F_Reader_read_number := F5,
      b_Reader_read_number := F5.binds (ps := ["self"]) fun _ _ _ _ _ _ us hl => match us, hl with | [_], _ => rfl,
      h_Reader_read_number := ⟨a5, i5, k5⟩,
      F_Reader_read_count := F6,
      b_Reader_read_count := F6.binds (ps := ["self"]) fun _ _ _ _ _ _ us hl => match us, hl with | [_], _ => rfl,
      h_Reader_read_count := ⟨a6, i6, k6⟩,
      F_Reader_read_character := F7,
      b_Reader_read_character := F7.binds (ps := ["self"]) fun _ _ _ _ _ _ us hl => match us, hl with | [_], _ => rfl,
      h_Reader_read_character := ⟨a7, i7, k7⟩,
      F_Reader_read_string := F8,
      b_Reader_read_string := F8.binds (ps := ["self"]) fun _ _ _ _ _ _ us hl => match us, hl with | [_], _ => rfl,
      h_Reader_read_string := ⟨a8, i8, k8⟩,
      F_Reader_read_mark := F9,
      b_Reader_read_mark := F9.binds (ps := ["self"]) fun _ _ _ _ _ _ us hl => match us, hl with | [_], _ => rfl,
      h_Reader_read_mark := ⟨a9, i9, k9⟩,
      F_Reader_read_deed := F10,
      b_Reader_read_deed := F10.binds (ps := ["self"]) fun _ _ _ _ _ _ us hl => match us, hl with | [_], _ => rfl,
      h_Reader_read_deed := ⟨a10, i10, k10⟩,
      F_Reader_read_deeds := F11,
      b_Reader_read_deeds := F11.binds (ps := ["self"]) fun _ _ _ _ _ _ us hl => match us, hl with | [_], _ => rfl,
      h_Reader_read_deeds := ⟨a11, i11, k11⟩,
      F_Reader_read_triple := F12,
      b_Reader_read_triple := F12.binds (ps := ["self"]) fun _ _ _ _ _ _ us hl => match us, hl with | [_], _ => rfl,
      h_Reader_read_triple := ⟨a12, i12, k12⟩,
      F_Reader_read_triples := F13,
      b_Reader_read_triples := F13.binds (ps := ["self"]) fun _ _ _ _ _ _ us hl => match us, hl with | [_], _ => rfl,
      h_Reader_read_triples := ⟨a13, i13, k13⟩,
      F_Reader_read_packet := F14,
      b_Reader_read_packet := F14.binds (ps := ["self"]) fun _ _ _ _ _ _ us hl => match us, hl with | [_], _ => rfl,
      h_Reader_read_packet := ⟨a14, i14, k14⟩,
      F_write_number := F15,
      b_write_number := F15.binds (ps := ["number"]) fun _ _ _ _ _ _ us hl => match us, hl with | [_], _ => rfl,
      m_write_number := PySem.W.mg_of X G a15,
      k_write_number := k15,
      F_checksum := F16,
      b_checksum := F16.binds (ps := ["data"]) fun _ _ _ _ _ _ us hl => match us, hl with | [_], _ => rfl,
      m_checksum := PySem.W.mg_of X G a16,
      k_checksum := k16,
      F_write_record := F17,
      b_write_record := F17.binds (ps := ["data"]) fun _ _ _ _ _ _ us hl => match us, hl with | [_], _ => rfl,
      m_write_record := PySem.W.mg_of X G a17,
      k_write_record := k17,
      F__read_size := F18,
      b__read_size := F18.binds (ps := ["data", "start"]) fun _ _ _ _ _ _ us hl => match us, hl with | [_, _], _ => rfl,
      m__read_size := PySem.W.mg_of X G a18,
      k__read_size := k18,
      F_read_records := F19,
      b_read_records := F19.binds (ps := ["data"]) fun _ _ _ _ _ _ us hl => match us, hl with | [_], _ => rfl,
      m_read_records := PySem.W.mg_of X G a19,
      k_read_records := k19,
      F__law_mix := F20,
      b__law_mix := F20.binds (ps := ["cell", "k"]) fun _ _ _ _ _ _ us hl => match us, hl with | [_, _], _ => rfl,
      m__law_mix := PySem.W.mg_of X G a20,
      k__law_mix := k20,
      F__law_draws := F21,
      b__law_draws := F21.binds (ps := ["script"]) fun _ _ _ _ _ _ us hl => match us, hl with | [_], _ => rfl,
      m__law_draws := PySem.W.mg_of X G a21,
      k__law_draws := k21,
      F__law_at := F22,
      b__law_at := F22.binds (ps := ["draws", "index"]) fun _ _ _ _ _ _ us hl => match us, hl with | [_, _], _ => rfl,
      m__law_at := PySem.W.mg_of X G a22,
      k__law_at := k22,
      F__law_is_integer := F23,
      b__law_is_integer := F23.binds (ps := ["actual"]) fun _ _ _ _ _ _ us hl => match us, hl with | [_], _ => rfl,
      m__law_is_integer := PySem.W.mg_of X G a23,
      k__law_is_integer := k23,
      F__law_same := F24,
      b__law_same := F24.binds (ps := ["actual", "expected"]) fun _ _ _ _ _ _ us hl => match us, hl with | [_, _], _ => rfl,
      m__law_same := PySem.W.mg_of X G a24,
      k__law_same := k24,
      F__law_next := F25,
      b__law_next := F25.binds (ps := ["state", "limit"]) fun _ _ _ _ _ _ us hl => match us, hl with | [_, _], _ => rfl,
      m__law_next := PySem.W.mg_of X G a25,
      k__law_next := k25,
      F__law_number := F26,
      b__law_number := F26.binds (ps := ["number"]) fun _ _ _ _ _ _ us hl => match us, hl with | [_], _ => rfl,
      m__law_number := PySem.W.mg_of X G a26,
      k__law_number := k26,
      F__law_checksum := F27,
      b__law_checksum := F27.binds (ps := ["data"]) fun _ _ _ _ _ _ us hl => match us, hl with | [_], _ => rfl,
      m__law_checksum := PySem.W.mg_of X G a27,
      k__law_checksum := k27,
      F__law_record := F28,
      b__law_record := F28.binds (ps := ["data"]) fun _ _ _ _ _ _ us hl => match us, hl with | [_], _ => rfl,
      m__law_record := PySem.W.mg_of X G a28,
      k__law_record := k28,
      F__law_bytes := F29,
      b__law_bytes := F29.binds (ps := ["state"]) fun _ _ _ _ _ _ us hl => match us, hl with | [_], _ => rfl,
      m__law_bytes := PySem.W.mg_of X G a29,
      k__law_bytes := k29,
      F__law_behind := F30,
      b__law_behind := F30.binds (ps := ["state"]) fun _ _ _ _ _ _ us hl => match us, hl with | [_], _ => rfl,
      m__law_behind := PySem.W.mg_of X G a30,
      k__law_behind := k30,
      F_law := F31,
      b_law := F31.binds (ps := ["script"]) fun _ _ _ _ _ _ us hl => match us, hl with | [_], _ => rfl,
      m_law := PySem.W.mg_of X G a31,
      k_law := k31,
      m_Reader := PySem.W.mg_of X G aC_Reader,
      c_Reader := ⟨pg_Reader, hd_Reader, po_Reader, sa_Reader⟩,
      M_Reader := ⟨mk_Reader, a1, i1, kc_Reader⟩,
      x_Reader_data := x_Reader_data,
      x_Reader_at := x_Reader_at,
      m_PlanwholeError := PySem.W.mg_of X G aC_PlanwholeError,
      xx_PlanwholeError := xx_PlanwholeError,
      kk_PlanwholeError := kk_PlanwholeError,
      bb_PlanwholeError := bb_PlanwholeError,
      tt_PlanwholeError := tt_PlanwholeError,
      ii_PlanwholeError := ii_PlanwholeError,
      sub_PlanwholeError_PlanwholeError := sub_PlanwholeError_PlanwholeError,
      m_DamagedPacket := PySem.W.mg_of X G aC_DamagedPacket,
      xx_DamagedPacket := xx_DamagedPacket,
      kk_DamagedPacket := kk_DamagedPacket,
      bb_DamagedPacket := bb_DamagedPacket,
      tt_DamagedPacket := tt_DamagedPacket,
      ii_DamagedPacket := ii_DamagedPacket,
      sub_DamagedPacket_DamagedPacket := sub_DamagedPacket_DamagedPacket,
      m_NUMBER_BYTES := PySem.W.mg_of X G ac_NUMBER_BYTES,
      r_NUMBER_BYTES := ⟨_, rfl⟩,
      m_CHECKSUM_LIMIT := PySem.W.mg_of X G ac_CHECKSUM_LIMIT,
      r_CHECKSUM_LIMIT := ⟨_, rfl⟩,
      n_bool := PySem.W.mg_none_of X G z_bool,
      n_int := PySem.W.mg_none_of X G z_int,
      n_isinstance := PySem.W.mg_none_of X G z_isinstance,
      n_len := PySem.W.mg_none_of X G z_len,
      n_list := PySem.W.mg_none_of X G z_list,
      n_min := PySem.W.mg_none_of X G z_min,
      n_range := PySem.W.mg_none_of X G z_range,
      n_str := PySem.W.mg_none_of X G z_str,
      n_tuple := PySem.W.mg_none_of X G z_tuple }, rfl, fun s v => .of_eq rfl⟩
theorem walk {l : PySem.W.OpenLaw} {q : Program} {loose : List Str} {XP : (Str → Option Value) → Heap → Prop} {YP : World → Heap → Prop} {d : DefRec} {K : Params → PySem.W.Frag} (hn : l.most = some 63) (hdf : d.params.defaults = [])
    (hY : ∀ (w : World) (h : Heap), YP w h → (K w.params).In h)
    (F : ∀ (w : World) (mg : Str → Option Value) (fa : Addr) (h : Heap), (K w.params).In h → h.Ns mainGlobals mg → mg d.name = some (.ref fa) →
      ∃ A : Adr, Env (K w.params) mg A ∧ A.f_law = fa ∧ ∀ (s : Shared) (v : Value), BindsTo s A.d_law ⟨[v], []⟩ [("script", v)]) :
    PySem.W.WalkO q loose XP YP l.row.toRowW d [] (fun f vs => PySem.call f vs) :=
  L2.walk_of (n := 63) (k := 6) (x := "script") (CX := fun _ => CX0) (sp := fun w => sp_law (K w.params)) hn (by decide) hdf ⟨rfl, by decide, by decide⟩ hY
    (fun w mg fa h KX G hmg => by
      obtain ⟨A, e, rfl, hb⟩ := F w mg fa h KX G hmg
      exact ⟨A.d_law, hb, fun base _ _ => ok_law e⟩)
    (fun _ _ a ns hl _ hS => ⟨a, ns, rfl, hS, hl, fun _ => rfl⟩) fun _ _ _ _ _ z => z
end My
open PySem PySem.W PyProof.Rows in
set_option maxRecDepth 100000 in
set_option maxHeartbeats 0 in
theorem PySem.Challenge.cw_planwhole_k11_records_holds : PySem.Challenge.rw_planwhole_k11_records.Holds := by
  w_on; o_law; k_head; (case hw => w_witness2)
  k_fill
  refine My.walk (l := PySem.Challenge.rw_planwhole_k11_records) rfl rfl (fun w h Y => PySem.W.kIn_of Y) ?F
  case F =>
    intro w mg fa h KX G hmg
    refine' My.all_mk KX G hmg ?aC_PlanwholeError ?aC_DamagedPacket ?aC_Reader ?a0 ?l0 ?c0 ?k0 ?a1 ?i1 ?l1 ?c1 ?k1 ?a2 ?i2 ?l2 ?c2 ?k2 ?a3 ?i3 ?l3 ?c3 ?k3 ?a4 ?i4 ?l4 ?c4 ?k4 ?a5 ?i5 ?l5 ?c5 ?k5 ?a6 ?i6 ?l6 ?c6 ?k6 ?a7 ?i7 ?l7 ?c7 ?k7 ?a8 ?i8 ?l8 ?c8 ?k8 ?a9 ?i9 ?l9 ?c9 ?k9 ?a10 ?i10 ?l10 ?c10 ?k10 ?a11 ?i11 ?l11 ?c11 ?k11 ?a12 ?i12 ?l12 ?c12 ?k12 ?a13 ?i13 ?l13 ?c13 ?k13 ?a14 ?i14 ?l14 ?c14 ?k14 ?a15 ?l15 ?c15 ?k15 ?a16 ?l16 ?c16 ?k16 ?a17 ?l17 ?c17 ?k17 ?a18 ?l18 ?c18 ?k18 ?a19 ?l19 ?c19 ?k19 ?a20 ?l20 ?c20 ?k20 ?a21 ?l21 ?c21 ?k21 ?a22 ?l22 ?c22 ?k22 ?a23 ?l23 ?c23 ?k23 ?a24 ?l24 ?c24 ?k24 ?a25 ?l25 ?c25 ?k25 ?a26 ?l26 ?c26 ?k26 ?a27 ?l27 ?c27 ?k27 ?a28 ?l28 ?c28 ?k28 ?a29 ?l29 ?c29 ?k29 ?a30 ?l30 ?c30 ?k30 ?a31 ?l31 ?c31 ?k31 ?pg_Reader ?hd_Reader ?po_Reader ?sa_Reader ?mk_Reader ?kc_Reader ?x_Reader_data ?x_Reader_at ?xx_PlanwholeError ?kk_PlanwholeError ?bb_PlanwholeError ?tt_PlanwholeError ?ii_PlanwholeError ?sub_PlanwholeError_PlanwholeError ?xx_DamagedPacket ?kk_DamagedPacket ?bb_DamagedPacket ?tt_DamagedPacket ?ii_DamagedPacket ?sub_DamagedPacket_DamagedPacket ?ac_NUMBER_BYTES ?ac_CHECKSUM_LIMIT ?z_bool ?z_int ?z_isinstance ?z_len ?z_list ?z_min ?z_range ?z_str ?z_tuple
    (case aC_PlanwholeError => k_is)
    (case aC_DamagedPacket => k_is)
    (case aC_Reader => k_is)
    (case a0 => k_is)
    (case l0 => k_is)
    (case c0 => k_is)
    (case k0 => k_is)
    (case a1 => k_is)
    (case i1 => k_is)
    (case l1 => k_is)
    (case c1 => k_is)
    (case k1 => k_is)
    (case a2 => k_is)
    (case i2 => k_is)
    (case l2 => k_is)
    (case c2 => k_is)
    (case k2 => k_is)
    (case a3 => k_is)
    (case i3 => k_is)
    (case l3 => k_is)
    (case c3 => k_is)
    (case k3 => k_is)
    (case a4 => k_is)
    (case i4 => k_is)
    (case l4 => k_is)
    (case c4 => k_is)
    (case k4 => k_is)
    (case a5 => k_is)
    (case i5 => k_is)
    (case l5 => k_is)
    (case c5 => k_is)
    (case k5 => k_is)
    (case a6 => k_is)
    (case i6 => k_is)
    (case l6 => k_is)
    (case c6 => k_is)
    (case k6 => k_is)
    (case a7 => k_is)
    (case i7 => k_is)
    (case l7 => k_is)
    (case c7 => k_is)
    (case k7 => k_is)
    (case a8 => k_is)
    (case i8 => k_is)
    (case l8 => k_is)
    (case c8 => k_is)
    (case k8 => k_is)
    (case a9 => k_is)
    (case i9 => k_is)
    (case l9 => k_is)
    (case c9 => k_is)
    (case k9 => k_is)
    (case a10 => k_is)
    (case i10 => k_is)
    (case l10 => k_is)
    (case c10 => k_is)
    (case k10 => k_is)
    (case a11 => k_is)
    (case i11 => k_is)
    (case l11 => k_is)
    (case c11 => k_is)
    (case k11 => k_is)
    (case a12 => k_is)
    (case i12 => k_is)
    (case l12 => k_is)
    (case c12 => k_is)
    (case k12 => k_is)
    (case a13 => k_is)
    (case i13 => k_is)
    (case l13 => k_is)
    (case c13 => k_is)
    (case k13 => k_is)
    (case a14 => k_is)
    (case i14 => k_is)
    (case l14 => k_is)
    (case c14 => k_is)
    (case k14 => k_is)
    (case a15 => k_is)
    (case l15 => k_is)
    (case c15 => k_is)
    (case k15 => k_is)
    (case a16 => k_is)
    (case l16 => k_is)
    (case c16 => k_is)
    (case k16 => k_is)
    (case a17 => k_is)
    (case l17 => k_is)
    (case c17 => k_is)
    (case k17 => k_is)
    (case a18 => k_is)
    (case l18 => k_is)
    (case c18 => k_is)
    (case k18 => k_is)
    (case a19 => k_is)
    (case l19 => k_is)
    (case c19 => k_is)
    (case k19 => k_is)
    (case a20 => k_is)
    (case l20 => k_is)
    (case c20 => k_is)
    (case k20 => k_is)
    (case a21 => k_is)
    (case l21 => k_is)
    (case c21 => k_is)
    (case k21 => k_is)
    (case a22 => k_is)
    (case l22 => k_is)
    (case c22 => k_is)
    (case k22 => k_is)
    (case a23 => k_is)
    (case l23 => k_is)
    (case c23 => k_is)
    (case k23 => k_is)
    (case a24 => k_is)
    (case l24 => k_is)
    (case c24 => k_is)
    (case k24 => k_is)
    (case a25 => k_is)
    (case l25 => k_is)
    (case c25 => k_is)
    (case k25 => k_is)
    (case a26 => k_is)
    (case l26 => k_is)
    (case c26 => k_is)
    (case k26 => k_is)
    (case a27 => k_is)
    (case l27 => k_is)
    (case c27 => k_is)
    (case k27 => k_is)
    (case a28 => k_is)
    (case l28 => k_is)
    (case c28 => k_is)
    (case k28 => k_is)
    (case a29 => k_is)
    (case l29 => k_is)
    (case c29 => k_is)
    (case k29 => k_is)
    (case a30 => k_is)
    (case l30 => k_is)
    (case c30 => k_is)
    (case k30 => k_is)
    (case a31 => k_is)
    (case l31 => k_is)
    (case c31 => k_is)
    (case k31 => k_is)
    (case pg_Reader => k_is)
    (case hd_Reader => k_is)
    (case po_Reader => k_is)
    (case sa_Reader => k_is)
    (case mk_Reader => k_is)
    (case kc_Reader => k_is)
    (case x_Reader_data => k_is)
    (case x_Reader_at => k_is)
    (case xx_PlanwholeError => k_exc)
    (case kk_PlanwholeError => k_is)
    (case bb_PlanwholeError => k_is)
    (case tt_PlanwholeError => k_is)
    (case ii_PlanwholeError => k_is)
    (case sub_PlanwholeError_PlanwholeError => first | rfl | k_is)
    (case xx_DamagedPacket => k_exc)
    (case kk_DamagedPacket => k_is)
    (case bb_DamagedPacket => k_is)
    (case tt_DamagedPacket => k_is)
    (case ii_DamagedPacket => k_is)
    (case sub_DamagedPacket_DamagedPacket => first | rfl | k_is)
    (case ac_NUMBER_BYTES => k_is)
    (case ac_CHECKSUM_LIMIT => k_is)
    (case z_bool => k_is)
    (case z_int => k_is)
    (case z_isinstance => k_is)
    (case z_len => k_is)
    (case z_list => k_is)
    (case z_min => k_is)
    (case z_range => k_is)
    (case z_str => k_is)
    (case z_tuple => k_is)

end
