import PyProof.Rows.All
import Wide.All
import OpenK.AllK
import Wide.FinOn
import HandS.ForMost
import HandS.IsInst
import HandS.Steps
import HandS.Codes
import HandS.SetFor
import HandS.Zip
import PySem.Challenge.RW_clockhand_k09_stretches
set_option Elab.async false
set_option linter.all false
set_option maxRecDepth 100000
set_option maxHeartbeats 4000000

namespace Cw
open PySem L2
/-! heaps -/
def Fr (W : List Addr) (H H' : Hp) : Prop := (∀ b o, H b = some o → b ∉ W → H' b = some o) ∧ ∀ b, H' b = none → H b = none
theorem Fr.refl {W : List Addr} {H : Hp} : Fr W H H := ⟨fun _ _ h _ => h, fun _ h => h⟩
theorem Fr.get {W : List Addr} {H H' : Hp} {b : Addr} {o : HO} (a : Fr W H H') (h : H b = some o) (hw : b ∉ W) : H' b = some o := a.1 b o h hw
theorem Fr.get0 {H H' : Hp} {b : Addr} {o : HO} (a : Fr [] H H') (h : H b = some o) : H' b = some o := a.1 b o h (by simp)
theorem Fr.free {W : List Addr} {H H' : Hp} {b : Addr} (a : Fr W H H') (h : H' b = none) : H b = none := a.2 b h
theorem Fr.comp {W W1 : List Addr} {H H1 H2 : Hp} (a : Fr W H H1) (b : Fr W1 H1 H2) (h : ∀ p ∈ W1, p ∈ W ∨ H p = none) : Fr W H H2 :=
  ⟨fun c o e hc => b.1 c o (a.1 c o e hc) (fun m => (h c m).elim hc fun n => by rw [n] at e; cases e), fun c e => a.2 c (b.2 c e)⟩
theorem Fr.trans {W : List Addr} {H H1 H2 : Hp} (a : Fr W H H1) (b : Fr W H1 H2) : Fr W H H2 := a.comp b fun p m => .inl m
theorem Fr.more {W : List Addr} {H H1 H2 : Hp} (a : Fr W H H1) (b : Fr [] H1 H2) : Fr W H H2 := a.comp b fun p m => absurd m (by simp)
theorem Fr.mono {W W' : List Addr} {H H' : Hp} (a : Fr W H H') (h : ∀ p ∈ W, p ∈ W') : Fr W' H H' := ⟨fun b o e hb => a.1 b o e fun m => hb (h b m), a.2⟩
theorem Fr.of0 {W : List Addr} {H H' : Hp} (a : Fr [] H H') : Fr W H H' := a.mono fun p m => absurd m (by simp)
theorem upd_none {H : Hp} {p b : Addr} {o : HO} (h : upd H p o b = none) : H b = none := by
  unfold upd at h
  split at h
  · cases h
  · exact h
theorem Fr.new {W : List Addr} {H : Hp} {p : Addr} {o : HO} (hp : H p = none) : Fr W H (upd H p o) :=
  ⟨fun b u e _ => by rw [upd_ne (ne_of_none e hp)]; exact e, fun b e => upd_none e⟩
theorem Fr.at {W : List Addr} {H : Hp} {p : Addr} {o : HO} (hp : p ∈ W) : Fr W H (upd H p o) :=
  ⟨fun b u e hb => by
    rw [upd_ne (fun z => hb (by rw [z]; exact hp))]
    exact e, fun b e => upd_none e⟩
/-- an object that is new beside H is changed -/
theorem Fr.loc {W : List Addr} {H0 H : Hp} {p : Addr} {o : HO} (a : Fr W H0 H) (n : H0 p = none) : Fr W H0 (upd H p o) :=
  a.comp (Fr.at (W := [p]) (List.mem_singleton.mpr rfl)) fun q m => .inr (by rw [List.mem_singleton.mp m]; exact n)
theorem Fr.seqL {K : PySem.W.Frag} {H H' : Hp} {a : Addr} {xs : List V} (e : Fr [] H H') (h : SqL K H a xs) : SqL K H' a xs := by
  rcases h with (h | ⟨o, h⟩) | h
  · exact .inl (.inl (e.get0 h))
  · exact .inl (.inr ⟨o, e.get0 h⟩)
  · exact .inr h
theorem Fr.seqT {K : PySem.W.Frag} {H H' : Hp} {a : Addr} {xs : List V} (e : Fr [] H H') (h : SqT K H a xs) : SqT K H' a xs := by
  rcases h with (h | ⟨o, h⟩) | h
  · exact .inl (.inl (e.get0 h))
  · exact .inl (.inr ⟨o, e.get0 h⟩)
  · exact .inr h
/-! a statement's heap, made a letter -/
theorem genS {F : Hp → Prop} {H : Hp} {p : Addr} {o : HO} (hp : H p = none) (h : ∀ H2, Fr [] H H2 → H2 p = some o → F H2) : F (upd H p o) := h _ (Fr.new hp) upd_same
theorem genM {F : Hp → Prop} {H : Hp} {p : Addr} {o : HO} (h : ∀ H2, Fr [p] H H2 → H2 p = some o → F H2) : F (upd H p o) := h _ (Fr.at (List.mem_singleton.mpr rfl)) upd_same
theorem at_ne {H : Hp} {p b : Addr} {o u : HO} (hb : b ≠ p) (h : H b = some u) : upd H p o b = some u := (upd_ne hb).trans h
theorem ne_n {H : Hp} {a b : Addr} {o : HO} (h' : H b = none) (h : H a = some o) : a ≠ b := ne_of_none h h'
theorem ne_n' {H : Hp} {a b : Addr} {o : HO} (h' : H b = none) (h : H a = some o) : b ≠ a := fun e => ne_of_none h h' e.symm
theorem ne_s {a b : Addr} (h : a ≠ b) : b ≠ a := fun e => h e.symm

/-! steps -/
section
variable {σ : L2.St} {H : Hp} {Q : VK} {i : Nat} {v x y : V} {ta tb tc te tx : TE} {K : PySem.W.Frag} {nx : L2.St → Hp → Prop} {rt : VK} {bk ct : L2.St → Hp → Prop} {t u : TS} {c d : TT} {QB : Bool → Hp → Prop}
theorem w_var (h : σ[i]? = some (some v)) (q : Q v H) : tVar i σ H Q := ⟨v, h, q⟩
theorem w_c (q : Q v H) : tC v σ H Q := q
theorem w_op {r : R2} (h : ta σ H fun x H1 => tb σ H1 fun y H2 => r x y H2 Q) : tOp r ta tb σ H Q := h
theorem w_un {r : V → Hp → VK → Prop} (h : ta σ H fun x H1 => r x H1 Q) : tUn r ta σ H Q := h
theorem w_cb {r : List V → Hp → VK → Prop} {tt : TA} (h : tt σ H fun vs H1 => r vs H1 Q) : tCB r tt σ H Q := h
theorem w_nil {QA : List V → Hp → Prop} (h : QA [] H) : tNil σ H QA := h
theorem w_cons {QA : List V → Hp → Prop} {tr : TA} (h : ta σ H fun x H1 => tr σ H1 fun xs H2 => QA (x :: xs) H2) : tCons ta tr σ H QA := h
theorem w_I0 {g : Int → Int → V} {i j : Int} (h : Q (g i j) H) : rI0 g (.int i) (.int j) H Q := ⟨i, j, rfl, rfl, h⟩
theorem w_I {C : Int → Int → Prop} {g : Int → Int → V} {i j : Int} (hc : C i j) (h : Q (g i j) H) : rI C g (.int i) (.int j) H Q := ⟨i, j, rfl, rfl, hc, h⟩
theorem w_U {g : Int → V} {i : Int} (h : Q (g i) H) : rU g (.int i) H Q := ⟨i, rfl, h⟩
theorem w_eqI {i j : Int} (h : Q (.bl (decide (i = j))) H) : rEq (.int i) (.int j) H Q := ⟨rfl, by
  have e : decide (V.int i = V.int j) = decide (i = j) := by simp
  rw [e]; exact h⟩
theorem w_neI {i j : Int} (h : Q (.bl (!decide (i = j))) H) : rNe (.int i) (.int j) H Q := ⟨rfl, by
  have e : decide (V.int i = V.int j) = decide (i = j) := by simp
  rw [e]; exact h⟩
theorem w_eqS {i j : Str} (h : Q (.bl (decide (i = j))) H) : rEq (.str i) (.str j) H Q := ⟨rfl, by
  have e : decide (V.str i = V.str j) = decide (i = j) := by simp
  rw [e]; exact h⟩
theorem w_eqB {i j : Bool} (h : Q (.bl (decide (i = j))) H) : rEq (.bl i) (.bl j) H Q := ⟨rfl, by
  have e : decide (V.bl i = V.bl j) = decide (i = j) := by simp
  rw [e]; exact h⟩
theorem w_neB {i j : Bool} (h : Q (.bl (!decide (i = j))) H) : rNe (.bl i) (.bl j) H Q := ⟨rfl, by
  have e : decide (V.bl i = V.bl j) = decide (i = j) := by simp
  rw [e]; exact h⟩
theorem w_ixL {p : Addr} {xs : List V} {i : Int} (h : SqL K H p xs) (ha : atI xs i = some v) (q : Q v H) : rIxL K (.ref p) (.int i) H Q := ⟨p, xs, i, v, rfl, rfl, h, ha, q⟩
theorem w_ixT {p : Addr} {xs : List V} {i : Int} (h : SqT K H p xs) (ha : atI xs i = some v) (q : Q v H) : rIxT K (.ref p) (.int i) H Q := ⟨p, xs, i, v, rfl, rfl, h, ha, q⟩
theorem w_test (h : te σ H fun x H' => ∃ k, x = .bl k ∧ QB k H') : tTest te σ H QB := h
theorem w_B (h : te σ H fun x H' => ∃ k, x = .bl k ∧ QB k H') : tB te σ H QB := h
theorem w_isbl {b : Bool} {PB : Bool → Prop} (h : PB b) : ∃ k, V.bl b = .bl k ∧ PB k := ⟨b, rfl, h⟩
theorem w_and (h : c σ H fun b H1 => if b = true then d σ H1 QB else QB false H1) : tAnd c d σ H QB := h
theorem w_or (h : c σ H fun b H1 => if b = true then QB true H1 else d σ H1 QB) : tOr c d σ H QB := h
theorem w_not (h : c σ H fun b H1 => QB (!b) H1) : tNot c σ H QB := h
theorem w_notV (h : ta σ H fun x H1 => ∃ c, x = .bl c ∧ Q (.bl (!c)) H1) : tNotV ta σ H Q := h
theorem w_andV (h : ta σ H fun x H1 => ∃ c, x = .bl c ∧ if c = true then tb σ H1 Q else Q (.bl false) H1) : tAndV ta tb σ H Q := h
theorem w_orV (h : ta σ H fun x H1 => ∃ c, x = .bl c ∧ if c = true then Q (.bl true) H1 else tb σ H1 Q) : tOrV ta tb σ H Q := h
theorem w_if (h : c σ H fun b H1 => if b = true then ta σ H1 Q else tb σ H1 Q) : tIf c ta tb σ H Q := h
theorem w_isN (h : Q (.bl (decide (x = .non))) H) : rIsN x .non H Q := ⟨rfl, h⟩
theorem w_notN (h : Q (.bl (!decide (x = .non))) H) : rNotN x .non H Q := ⟨rfl, h⟩
theorem w_lst {tt : TA} (h : tt σ H fun xs H1 => xs.length ≤ sizeLine ∧ ∀ p, H1 p = none → Q (.ref p) (upd H1 p (.lst xs))) : tLst tt σ H Q := h
theorem w_tup {tt : TA} (h : tt σ H fun xs H1 => xs.length ≤ sizeLine ∧ ∀ p, H1 p = none → Q (.ref p) (upd H1 p (.tup xs))) : tTup tt σ H Q := h
theorem w_chain {r r' : R2} (h : ta σ H fun x H1 => tb σ H1 fun y H2 => r x y H2 fun z H3 => ∃ k, z = .bl k ∧ if k = true then tc σ H3 fun w H4 => r' y w H4 Q else Q (.bl false) H3) : tChain r r' ta tb tc σ H Q := h
theorem w_len {p : Addr} {xs : List V} (h : SqL K H p xs ∨ SqT K H p xs) (q : Q (.int xs.length) H) : (fun (vs : List V) (H : Hp) (Q : VK) => ∃ p ys, vs = [.ref p] ∧ (SqL K H p ys ∨ SqT K H p ys) ∧ Q (.int ys.length) H) [.ref p] H Q := ⟨p, xs, rfl, h, q⟩
theorem w_call {sp : Sp} {dvs : List V} {E : XK} {tt : TA} (h : tt σ H fun vs H1 => sp (vs ++ dvs) H1 Q E) : tCall sp dvs E tt σ H Q := h
theorem w_call0 {sp : Sp} {E : XK} {tt : TA} (h : tt σ H fun vs H1 => sp (vs ++ []) H1 Q E) : tCall sp [] E tt σ H Q := h
/-! statements -/
theorem w_seq (h : t ⟨u ⟨nx, rt, bk, ct⟩, rt, bk, ct⟩ σ H) : tSeq t u ⟨nx, rt, bk, ct⟩ σ H := h
theorem w_cut (Mid : L2.St → Hp → Prop) (h1 : t ⟨Mid, rt, bk, ct⟩ σ H) (h2 : ∀ σ H, Mid σ H → u ⟨nx, rt, bk, ct⟩ σ H) : C8.tCut t u ⟨nx, rt, bk, ct⟩ σ H := ⟨Mid, h1, h2⟩
theorem w_next (h : nx σ H) : tNext ⟨nx, rt, bk, ct⟩ σ H := h
theorem w_brk (h : bk σ H) : tBreak ⟨nx, rt, bk, ct⟩ σ H := h
theorem w_cont (h : ct σ H) : tCont ⟨nx, rt, bk, ct⟩ σ H := h
theorem w_asg {g : TG} (h : te σ H fun x H1 => g x σ H1 nx) : tAsg te g ⟨nx, rt, bk, ct⟩ σ H := h
theorem w_gn {N : L2.St → Hp → Prop} (h : N (σ.set i (some v)) H) : gName i v σ H N := h
theorem w_drop (h : te σ H fun _ H1 => nx σ H1) : tDrop te ⟨nx, rt, bk, ct⟩ σ H := h
theorem w_ret (h : te σ H rt) : tRet te ⟨nx, rt, bk, ct⟩ σ H := h
theorem w_ifS (h : c σ H fun b H1 => if b = true then t ⟨nx, rt, bk, ct⟩ σ H1 else u ⟨nx, rt, bk, ct⟩ σ H1) : tIfS c t u ⟨nx, rt, bk, ct⟩ σ H := h
theorem w_sub {to ti : TE} {ts : TSet} {N : L2.St → Hp → Prop} (h : to σ H fun o H1 => ti σ H1 fun i H2 => ts o i v H2 fun H3 => N σ H3) : gSub to ti ts v σ H N := h
theorem ite_d {p : Prop} {inst : Decidable p} {A B : Prop} (h1 : p → A) (h2 : ¬ p → B) : if decide p = true then A else B := by
  by_cases h : p
  · rw [if_pos (decide_eq_true h)]; exact h1 h
  · rw [if_neg (by simp [h])]; exact h2 h
theorem ite_nd {p : Prop} {inst : Decidable p} {A B : Prop} (h1 : ¬ p → A) (h2 : p → B) : if (!decide p) = true then A else B := by
  by_cases h : p
  · rw [if_neg (by simp [h])]; exact h2 h
  · rw [if_pos (by simp [h])]; exact h1 h
theorem ite_b {b : Bool} {A B : Prop} (h1 : b = true → A) (h2 : b = false → B) : if b = true then A else B := by
  cases b
  · exact h2 rfl
  · exact h1 rfl
theorem w_iList {tl : TE} {R : It → Hp → Prop} (h : tl σ H fun x H1 => ∃ a, x = V.ref a ∧ (∃ xs, SqL K H1 a xs) ∧ R (Itl K a) H1) : iList K tl σ H R := h
theorem f_list {g : TG} {tb : TS} {a : Addr} (xs : List V) (Pv : Nat → L2.St → Hp → Prop) (h0 : Pv 0 σ H) (hl : ∀ i σ H, i ≤ xs.length → Pv i σ H → SqL K H a xs)
    (hs : ∀ i x σ H, xs[i]? = some x → Pv i σ H → g x σ H fun σ2 H2 => tb ⟨Pv (i + 1), rt, nx, Pv (i + 1)⟩ σ2 H2) (hd : ∀ σ H, Pv xs.length σ H → nx σ H) :
    ∃ b, V.ref a = V.ref b ∧ (∃ xs, SqL K H b xs) ∧ ∃ W : Nat → Nat → L2.St → Hp → Prop, (∃ m, W 0 m σ H) ∧ ∀ i m σ H, W i m σ H →
      ((Itl K b).stop i H ∧ nx σ H) ∨ ((Itl K b).go i H ∧ ∃ N : L2.St → Hp → Prop, (∀ σ' H', N σ' H' → ∃ m', m' < m ∧ W (i + 1) m' σ' H') ∧ ∀ x H', (Itl K b).yld i H x H' → g x σ H' fun σ2 H2 => tb ⟨N, rt, nx, N⟩ σ2 H2) :=
  ⟨a, rfl, ⟨xs, hl 0 σ H (Nat.zero_le _) h0⟩, for_list (D := ⟨nx, rt, fun _ _ => False, fun _ _ => False⟩) (K := K) (a := a) (xs := xs) Pv h0 hl hs hd⟩
theorem w_iRng1 {tt : TA} {R : It → Hp → Prop} (h : tt σ H fun vs H1 => ∃ j : Int, vs = [.int j] ∧ -(2 ^ 62) ≤ j ∧ j < 2 ^ 62 ∧ R (Itr 0 j.toNat) H1) : iRng1 tt σ H R := h
theorem w_iRng2 {tt : TA} {R : It → Hp → Prop} (h : tt σ H fun vs H1 => ∃ i j : Int, vs = [.int i, .int j] ∧ (-(2 ^ 62) ≤ i ∧ i < 2 ^ 62 ∧ -(2 ^ 62) ≤ j ∧ j < 2 ^ 62) ∧ R (Itr i (j - i).toNat) H1) : iRng2 tt σ H R := h
/-- for over range(n) -/
theorem f_rng1 {g : TG} {tb : TS} {j : Int} (hj : j < 2 ^ 62) (h0' : 0 ≤ j) (Pv : Nat → L2.St → Hp → Prop) (h0 : Pv 0 σ H)
    (hs : ∀ (i : Nat) σ H, (i : Int) < j → Pv i σ H → g (.int (i : Int)) σ H fun σ2 H2 => tb ⟨Pv (i + 1), rt, nx, Pv (i + 1)⟩ σ2 H2) (hd : ∀ σ H, Pv j.toNat σ H → nx σ H) :
    ∃ k : Int, [V.int j] = [V.int k] ∧ -(2 ^ 62) ≤ k ∧ k < 2 ^ 62 ∧ ∃ W : Nat → Nat → L2.St → Hp → Prop, (∃ m, W 0 m σ H) ∧ ∀ i m σ H, W i m σ H →
      ((Itr 0 k.toNat).stop i H ∧ nx σ H) ∨ ((Itr 0 k.toNat).go i H ∧ ∃ N : L2.St → Hp → Prop, (∀ σ' H', N σ' H' → ∃ m', m' < m ∧ W (i + 1) m' σ' H') ∧ ∀ x H', (Itr 0 k.toNat).yld i H x H' → g x σ H' fun σ2 H2 => tb ⟨N, rt, nx, N⟩ σ2 H2) := by
  refine ⟨j, rfl, by omega, hj, for_range (D := ⟨nx, rt, fun _ _ => False, fun _ _ => False⟩) (lo := 0) (n := j.toNat) Pv h0 (fun i σ H hi p => ?_) hd⟩
  have e : (0 : Int) + (i : Int) = (i : Int) := Int.zero_add _
  rw [e]
  exact hs i σ H (by omega) p
theorem f_rng2 {g : TG} {tb : TS} {lo hi : Int} (h1 : -(2 ^ 62) ≤ lo) (h2 : lo < 2 ^ 62) (h3 : -(2 ^ 62) ≤ hi) (h4 : hi < 2 ^ 62) (Pv : Nat → L2.St → Hp → Prop) (h0 : Pv 0 σ H)
    (hs : ∀ (i : Nat) σ H, lo + (i : Int) < hi → Pv i σ H → g (.int (lo + (i : Int))) σ H fun σ2 H2 => tb ⟨Pv (i + 1), rt, nx, Pv (i + 1)⟩ σ2 H2) (hd : ∀ σ H, Pv (hi - lo).toNat σ H → nx σ H) :
    ∃ i j : Int, [V.int lo, V.int hi] = [.int i, .int j] ∧ (-(2 ^ 62) ≤ i ∧ i < 2 ^ 62 ∧ -(2 ^ 62) ≤ j ∧ j < 2 ^ 62) ∧ ∃ W : Nat → Nat → L2.St → Hp → Prop, (∃ m, W 0 m σ H) ∧ ∀ k m σ H, W k m σ H →
      ((Itr i (j - i).toNat).stop k H ∧ nx σ H) ∨ ((Itr i (j - i).toNat).go k H ∧ ∃ N : L2.St → Hp → Prop, (∀ σ' H', N σ' H' → ∃ m', m' < m ∧ W (k + 1) m' σ' H') ∧ ∀ x H', (Itr i (j - i).toNat).yld k H x H' → g x σ H' fun σ2 H2 => tb ⟨N, rt, nx, N⟩ σ2 H2) := by
  refine ⟨lo, hi, rfl, ⟨h1, h2, h3, h4⟩, for_range (D := ⟨nx, rt, fun _ _ => False, fun _ _ => False⟩) (lo := lo) (n := (hi - lo).toNat) Pv h0 (fun i σ H hi' p => ?_) hd⟩
  exact hs i σ H (by omega) p
theorem w_for {wi : TI} {g : TG} {tb : TS} (h : wi σ H fun J H1 => ∃ W : Nat → Nat → L2.St → Hp → Prop, (∃ m, W 0 m σ H1) ∧ ∀ i m σ H, W i m σ H →
  (J.stop i H ∧ nx σ H) ∨ (J.go i H ∧ ∃ N : L2.St → Hp → Prop, (∀ σ' H', N σ' H' → ∃ m', m' < m ∧ W (i + 1) m' σ' H') ∧ ∀ x H', J.yld i H x H' → g x σ H' fun σ2 H2 => tb ⟨N, rt, nx, N⟩ σ2 H2)) : tFor wi g tb ⟨nx, rt, bk, ct⟩ σ H := h

/-! more steps -/
theorem w_bm {T : String} {r : V → List V → Hp → VK → Prop} {to : TE} {tt : TA} (h : to σ H fun x H1 => tyV K T x H1 ∧ tt σ H1 fun xs H2 => r x xs H2 Q) : tBM K T r to tt σ H Q := h
theorem w_bm0 {T : String} {r : V → List V → Hp → VK → Prop} {to : TE} (h : to σ H fun x H1 => tyV K T x H1 ∧ r x [] H1 Q) : tBM0 K T r to σ H Q := h
theorem w_tyL {p : Addr} {xs : List V} {B : Prop} (h : SqL K H p xs) (q : B) : tyV K "list" (.ref p) H ∧ B := ⟨.inl ⟨rfl, _, h⟩, q⟩
theorem w_append {l : Addr} {xs : List V} {y : V} (h : H l = some (.lst xs)) (hz : xs.length < sizeLine) (q : Q .non (upd H l (.lst (xs ++ [y])))) : rAppend (.ref l) [y] H Q := ⟨l, xs, y, rfl, rfl, h, hz, q⟩
theorem w_setL {p : Addr} {xs ys : List V} {k : Int} {j : Nat} {N : Hp → Prop} (h : H p = some (.lst xs)) (hj : ixN xs.length k = some j) (e : xs.set j v = ys) (q : N (upd H p (.lst ys))) : rSetL (.ref p) (.int k) v H N := ⟨p, xs, k, j, rfl, rfl, h, hj, by rw [e]; exact q⟩
theorem w_cat {a b : Addr} {xs ys : List V} (h1 : H a = some (.lst xs)) (h2 : H b = some (.lst ys)) (hz : xs.length + ys.length ≤ sizeLine) (q : ∀ p, H p = none → Q (.ref p) (upd H p (.lst (xs ++ ys)))) : rCat (.ref a) (.ref b) H Q :=
  ⟨a, b, xs, ys, rfl, rfl, h1, h2, hz, q⟩
theorem w_inL {p : Addr} {xs : List V} {b : Bool} (h : SqL K H p xs) (hx : flatV x = true) (ha : xs.all flatV = true) (e : inV x xs = b) (q : Q (.bl b) H) : rIn K false x (.ref p) H Q := ⟨p, xs, rfl, .inl h, hx, ha, by rw [e]; exact q⟩
theorem w_niL {p : Addr} {xs : List V} {b : Bool} (h : SqL K H p xs) (hx : flatV x = true) (ha : xs.all flatV = true) (e : (!inV x xs) = b) (q : Q (.bl b) H) : rIn K true x (.ref p) H Q := ⟨p, xs, rfl, .inl h, hx, ha, by rw [if_pos rfl, e]; exact q⟩
def rLen (K : PySem.W.Frag) : List V → Hp → VK → Prop := fun xs H Q => ∃ p ys, xs = [.ref p] ∧ (SqL K H p ys ∨ SqT K H p ys) ∧ Q (.int ys.length) H
theorem cr_len {X : Cx} : CallR X (.builtin "len") (rLen X.K) := call_len_seq
theorem w_lenL {p : Addr} {xs : List V} (h : SqL K H p xs) (q : Q (.int xs.length) H) : rLen K [.ref p] H Q := ⟨p, xs, rfl, .inl h, q⟩
theorem w_lenT {p : Addr} {xs : List V} (h : SqT K H p xs) (q : Q (.int xs.length) H) : rLen K [.ref p] H Q := ⟨p, xs, rfl, .inr h, q⟩
def rInt1 : List V → Hp → VK → Prop := fun xs H Q => (∃ i, xs = [.int i] ∧ Q (.int i) H) ∨ ∃ k, xs = [.bl k] ∧ Q (.int (if k then 1 else 0)) H
theorem cr_int {X : Cx} : CallR X (.type "int") rInt1 := call_int1
theorem w_intB {b : Bool} (q : Q (.int (if b then 1 else 0)) H) : rInt1 [.bl b] H Q := .inr ⟨b, rfl, q⟩
theorem w_intI {i : Int} (q : Q (.int i) H) : rInt1 [.int i] H Q := .inl ⟨i, rfl, q⟩
def rMin2 : List V → Hp → VK → Prop := fun xs H Q => ∃ i j, xs = [.int i, .int j] ∧ Q (.int (if j < i then j else i)) H
theorem cr_min2 {X : Cx} (hc : X.calm = true) : CallR X (.builtin "min") rMin2 := call_min2 hc
theorem w_min2 {i j : Int} (q : Q (.int (if j < i then j else i)) H) : rMin2 [.int i, .int j] H Q := ⟨i, j, rfl, q⟩
def rList (K : PySem.W.Frag) : List V → Hp → VK → Prop := fun xs H Q => ∃ p ys, xs = [.ref p] ∧ (SqL K H p ys ∨ SqT K H p ys) ∧ ∀ l, H l = none → Q (.ref l) (upd H l (.lst ys))
theorem cr_list {X : Cx} : CallR X (.type "list") (rList X.K) := call_list_of
theorem w_listL {p : Addr} {xs : List V} (h : SqL K H p xs) (q : ∀ l, H l = none → Q (.ref l) (upd H l (.lst xs))) : rList K [.ref p] H Q := ⟨p, xs, rfl, .inl h, q⟩
/-- a new object's place: its size, then any free address -/
theorem w_new {n : Nat} {P : Addr → Prop} (hz : n ≤ sizeLine) (h : ∀ p, P p) : n ≤ sizeLine ∧ ∀ p, P p := ⟨hz, h⟩
theorem sz_le {n : Nat} (h : n ≤ 100000) : n ≤ sizeLine := Nat.le_trans h (by decide)
theorem sz_lt {n : Nat} (h : n < 100000) : n < sizeLine := Nat.lt_of_lt_of_le h (by decide)
theorem ite_dT {p : Prop} {inst : Decidable p} {A B : Prop} (hp : p) (h1 : A) : if decide p = true then A else B := by rw [if_pos (decide_eq_true hp)]; exact h1
theorem ite_dF {p : Prop} {inst : Decidable p} {A B : Prop} (hp : ¬ p) (h1 : B) : if decide p = true then A else B := by rw [if_neg (by simp [hp])]; exact h1
theorem ite_nT {p : Prop} {inst : Decidable p} {A B : Prop} (hp : ¬ p) (h1 : A) : if (!decide p) = true then A else B := by rw [if_pos (by simp [hp])]; exact h1
theorem ite_nF {p : Prop} {inst : Decidable p} {A B : Prop} (hp : p) (h1 : B) : if (!decide p) = true then A else B := by rw [if_neg (by simp [hp])]; exact h1
end
/-! deep data -/
theorem dp_ints {K : PySem.W.Frag} {H : Hp} : ∀ ns : List Int, DpAll K H (ns.map V.int) (ns.map PyData.int)
  | [] => .nil
  | n :: r => .cons (.int n) (dp_ints r)
theorem lay_ints : ∀ ns : List Int, PyData.canLayAll0 (ns.map PyData.int) = true
  | [] => rfl
  | n :: r => by simp [PyData.canLayAll0, PyData.canLay0, lay_ints r]
theorem depth_ints : ∀ ns : List Int, PyData.depthAll (ns.map PyData.int) ≤ 1
  | [] => by simp [PyData.depthAll]
  | n :: r => by
    have h := depth_ints r
    simp [PyData.depthAll, PyData.depth]
    omega
theorem shaped_ints (ns : List Int) : SeqAt.shaped (.list (ns.map PyData.int)) = true := by
  have h := depth_ints ns
  simp [SeqAt.shaped, PyData.canLay0, lay_ints, PyData.depth]
  omega
theorem eqv_ints : ∀ ns ms : List Int, PyData.eqvAll (ns.map PyData.int) (ms.map PyData.int) = decide (ns = ms)
  | [], [] => by simp [PyData.eqvAll]
  | [], _ :: _ => by simp [PyData.eqvAll]
  | _ :: _, [] => by simp [PyData.eqvAll]
  | n :: r, m :: t => by
    have h := eqv_ints r t
    simp only [List.map_cons, PyData.eqvAll, PyData.eqv, h, List.cons.injEq]
    by_cases e : n = m <;> simp [e]
section
variable {σ : L2.St} {H : Hp} {Q : VK} {K : PySem.W.Frag}
theorem w_eqDI {p q : Addr} {ns ms : List Int} (h1 : SqL K H p (ns.map V.int)) (h2 : SqL K H q (ms.map V.int)) (hq : Q (.bl (decide (ns = ms))) H) : rEqD K (.ref p) (.ref q) H Q :=
  ⟨.list (ns.map PyData.int), .list (ms.map PyData.int), .lst h1 (dp_ints ns), .lst h2 (dp_ints ms), shaped_ints ns, shaped_ints ms, by
    show Q (.bl (PyData.eqv (.list _) (.list _))) H
    simp only [PyData.eqv, eqv_ints]; exact hq⟩
theorem w_neDI {p q : Addr} {ns ms : List Int} (h1 : SqL K H p (ns.map V.int)) (h2 : SqL K H q (ms.map V.int)) (hq : Q (.bl (!decide (ns = ms))) H) : rNeD K (.ref p) (.ref q) H Q :=
  ⟨.list (ns.map PyData.int), .list (ms.map PyData.int), .lst h1 (dp_ints ns), .lst h2 (dp_ints ms), shaped_ints ns, shaped_ints ms, by
    show Q (.bl (!PyData.eqv (.list _) (.list _))) H
    simp only [PyData.eqv, eqv_ints]; exact hq⟩
end
theorem map_nil_of {H : Hp} {p : Addr} (h : H p = some (.lst [])) : H p = some (.lst (([] : List Int).map V.int)) := h
end Cw
namespace Cw
open PySem L2
theorem int_at {ns : List Int} {i : Nat} {x : V} (h : (ns.map V.int)[i]? = some x) : ∃ z, ns[i]? = some z ∧ x = V.int z := by
  rw [List.getElem?_map] at h
  cases e : ns[i]? with
  | none => rw [e] at h; cases h
  | some z => rw [e] at h; exact ⟨z, rfl, (Option.some.inj h).symm⟩
/-- the law's box: a list of the script's rest and the number that goes on -/
def Box (H : Hp) (b q : Addr) : Prop := ∃ (z : Int) (ms : List Int), H b = some (.lst [.ref q, .int z]) ∧ H q = some (.lst (ms.map V.int)) ∧ 0 ≤ z ∧ z < 2147483647 ∧ ms.length ≤ 63
theorem Box.ne {H : Hp} {b q : Addr} (h : Box H b q) : b ≠ q := by
  obtain ⟨z, ms, h1, h2, _⟩ := h
  intro e
  subst e
  rw [h1] at h2
  cases ms with
  | nil => simp at h2
  | cons m r => simp at h2
theorem Box.keep {W : List Addr} {H H' : Hp} {b q : Addr} (h : Box H b q) (f : Fr W H H') (nb : b ∉ W) (nq : q ∉ W) : Box H' b q := by
  obtain ⟨z, ms, h1, h2, r⟩ := h
  exact ⟨z, ms, f.get h1 nb, f.get h2 nq, r⟩
theorem Box.keep0 {H H' : Hp} {b q : Addr} (h : Box H b q) (f : Fr [] H H') : Box H' b q := h.keep f (by simp) (by simp)
theorem sq_new {K : PySem.W.Frag} {H : Hp} {p a : Addr} {o : HO} {xs : List V} (h : SqL K H a xs) (hp : H p = none) : SqL K (upd H p o) a xs := Fr.seqL (Fr.new hp) h
theorem st_new {K : PySem.W.Frag} {H : Hp} {p a : Addr} {o : HO} {xs : List V} (h : SqT K H a xs) (hp : H p = none) : SqT K (upd H p o) a xs := Fr.seqT (Fr.new hp) h
theorem cmul_l {i j : Int} (h1 : -18446744073709551616 < i) (h2 : i < 18446744073709551616) : CMul i j := .inl ⟨by omega, by omega⟩
theorem cmul_r {i j : Int} (h1 : -18446744073709551616 < j) (h2 : j < 18446744073709551616) : CMul i j := .inr ⟨by omega, by omega⟩
theorem cdiv_ {i j : Int} (h1 : 0 < j) (h2 : j < 1073741824) : CDiv i j := ⟨h1, h2⟩
theorem cpos_ {j : Int} (h1 : 0 < j) : 0 < j := h1
theorem w_pop0 {H : Hp} {Q : VK} {l : Addr} {y : V} {xs : List V} (h : H l = some (.lst (y :: xs))) (hz : xs.length < 1000000) (q : Q y (upd H l (.lst xs))) : rPopAt (.ref l) [.int 0] H Q := by
  refine ⟨l, y :: xs, 0, 0, y, rfl, rfl, h, by decide, by decide, ?_, rfl, q⟩
  unfold seqIndex?
  simp
theorem atI_0 {x : V} {xs : List V} : atI (x :: xs) 0 = some x := atI_nat (j := 0) rfl
theorem ixN_nat {n j : Nat} (h : j < n) : ixN n (j : Int) = some j := by
  unfold ixN
  rw [if_pos (by omega), if_pos (by omega)]
  simp
theorem ixN_0 {x : V} {xs : List V} : ixN (x :: xs).length 0 = some 0 := ixN_nat (j := 0) (Nat.succ_pos _)
theorem mod_in {z n : Int} (h : 0 < n) : 0 ≤ z % n ∧ z % n < n := ⟨Int.emod_nonneg _ (by omega), Int.emod_lt_of_pos _ h⟩
theorem ixN_1 {x y : V} {xs : List V} : ixN (x :: y :: xs).length 1 = some 1 := ixN_nat (j := 1) (Nat.succ_lt_succ (Nat.succ_pos _))
theorem ints_at {ns : List Int} {r : Int} (h0 : 0 ≤ r) (h1 : r < ns.length) : ∃ v, atI (ns.map V.int) r = some (.int v) ∧ v ∈ ns := by
  obtain ⟨j, rfl⟩ : ∃ j : Nat, r = (j : Int) := ⟨r.toNat, by omega⟩
  have hj : j < ns.length := by omega
  exact ⟨ns[j], atI_nat (by rw [List.getElem?_map, List.getElem?_eq_getElem hj]; rfl), List.getElem_mem hj⟩
theorem atI_neg1 {xs : List V} {v : V} (h : xs.getLast? = some v) : atI xs (-1) = some v := by
  obtain ⟨ys, rfl⟩ := List.getLast?_eq_some_iff.mp h
  exact atI_last ys v
theorem ints_last {ns : List Int} (h : ns ≠ []) : ∃ v, atI (ns.map V.int) (-1) = some (.int v) ∧ v ∈ ns := by
  refine ⟨ns.getLast h, atI_neg1 ?_, List.getLast_mem h⟩
  rw [List.getLast?_map, List.getLast?_eq_some_getLast h]
  rfl
theorem Fr.ne_mem {W : List Addr} {H H' : Hp} {p b : Addr} {o : HO} (_ : Fr W H H') (h : H b = some o) (hp : H p = none) : p ≠ b := fun e => by
  subst e
  rw [h] at hp
  cases hp
theorem Box.free {H : Hp} {b q p : Addr} (h : Box H b q) (hp : H p = none) : p ∉ [b, q] := by
  obtain ⟨z, ms, h1, h2, _⟩ := h
  simp only [List.mem_cons, List.not_mem_nil, or_false, not_or]
  exact ⟨fun e => ne_of_none h1 hp e.symm, fun e => ne_of_none h2 hp e.symm⟩
theorem w_eqD0 {K : PySem.W.Frag} {H : Hp} {Q : VK} {p q : Addr} {ns : List Int} (h1 : SqL K H p (ns.map V.int)) (h2 : SqL K H q []) (hq : Q (.bl (decide (ns = []))) H) : rEqD K (.ref p) (.ref q) H Q := w_eqDI (ms := []) h1 h2 hq
theorem w_neD0 {K : PySem.W.Frag} {H : Hp} {Q : VK} {p q : Addr} {ns : List Int} (h1 : SqL K H p (ns.map V.int)) (h2 : SqL K H q []) (hq : Q (.bl (!decide (ns = []))) H) : rNeD K (.ref p) (.ref q) H Q := w_neDI (ms := []) h1 h2 hq
theorem dpall_len {K : PySem.W.Frag} {H : Hp} : ∀ {xs : List V} {ds : List PyData}, DpAll K H xs ds → xs.length = ds.length
  | _, _, .nil => rfl
  | _, _, .cons _ t => congrArg (· + 1) (dpall_len t)
theorem dpall_get {K : PySem.W.Frag} {H : Hp} : ∀ {xs : List V} {ds : List PyData} {i : Nat} {d : PyData}, DpAll K H xs ds → ds[i]? = some d → ∃ x, xs[i]? = some x ∧ Dp K H x d
  | _, _, 0, _, .cons a _, h => by
    simp at h
    subst h
    exact ⟨_, rfl, a⟩
  | _, _, i + 1, _, .cons _ t, h => by
    obtain ⟨x, h1, h2⟩ := dpall_get (i := i) t (by simpa using h)
    exact ⟨x, by simpa using h1, h2⟩
  | _, _, _, _, .nil, h => by simp at h
theorem ty_L {K : PySem.W.Frag} {H : Hp} {a : Addr} {xs : List V} (h : SqL K H a xs) : TyX K H (.ref a) (.type "list") := by
  rcases h with (h | ⟨o, h⟩) | ⟨o, its, n, h, c, _⟩
  · exact .base (.lst h)
  · exact .base (.frz h)
  · exact .kList h c
theorem ty_T {K : PySem.W.Frag} {H : Hp} {a : Addr} {xs : List V} (h : SqT K H a xs) : TyX K H (.ref a) (.type "tuple") := by
  rcases h with (h | ⟨o, h⟩) | ⟨o, its, n, h, c, _⟩
  · exact .base (.tup h)
  · exact .fTuple h
  · exact .kTuple h c
theorem w_isi {K : PySem.W.Frag} {H : Hp} {Q : VK} {x : V} {t c : String} {b : Bool} (ht : TyX K H x (.type t)) (h : kitB t c = some b) (q : Q (.bl b) H) : rIsi K [x, .ty c] H Q := ⟨x, .ty c, .type t, .type c, b, rfl, .ty c, ht, kit_ty h, q⟩
theorem w_ixQL {K : PySem.W.Frag} {H : Hp} {Q : VK} {v : V} {p : Addr} {xs : List V} {i : Int} (h : SqL K H p xs) (ha : atI xs i = some v) (q : Q v H) : rIx K (.ref p) (.int i) H Q := .inl (w_ixL h ha q)
theorem w_ixQT {K : PySem.W.Frag} {H : Hp} {Q : VK} {v : V} {p : Addr} {xs : List V} {i : Int} (h : SqT K H p xs) (ha : atI xs i = some v) (q : Q v H) : rIx K (.ref p) (.int i) H Q := .inr (.inl (w_ixT h ha q))
/-- data of at most so deep lists and tuples -/
def fits : Nat → PyData → Prop
  | 0, d => match d with
    | .list _ | .tuple _ | .dict _ => False
    | _ => True
  | k + 1, d => match d with
    | .list ds | .tuple ds => ds.length ≤ 100000 ∧ ∀ x ∈ ds, fits k x
    | .dict _ => False
    | _ => True
theorem Fr.dp {K : PySem.W.Frag} {H H' : Hp} (f : Fr [] H H') : ∀ (d : PyData) (v : V), Dp K H v d → Dp K H' v d := fun d v h =>
  Dp.rec (motive_1 := fun v d _ => Dp K H' v d) (motive_2 := fun vs ds _ => DpAll K H' vs ds) .non .bl .int .str (fun h _ ih => .lst (f.seqL h) ih) (fun h _ ih => .tup (f.seqT h) ih) .nil (fun _ _ a b => .cons a b) h
theorem kb_NoneType_bool : kitB "NoneType" "bool" = some false := by decide +kernel
theorem kb_NoneType_int : kitB "NoneType" "int" = some false := by decide +kernel
theorem kb_NoneType_str : kitB "NoneType" "str" = some false := by decide +kernel
theorem kb_NoneType_tuple : kitB "NoneType" "tuple" = some false := by decide +kernel
theorem kb_NoneType_list : kitB "NoneType" "list" = some false := by decide +kernel
theorem kb_bool_bool : kitB "bool" "bool" = some true := by decide +kernel
theorem kb_bool_int : kitB "bool" "int" = some true := by decide +kernel
theorem kb_bool_str : kitB "bool" "str" = some false := by decide +kernel
theorem kb_bool_tuple : kitB "bool" "tuple" = some false := by decide +kernel
theorem kb_bool_list : kitB "bool" "list" = some false := by decide +kernel
theorem kb_int_bool : kitB "int" "bool" = some false := by decide +kernel
theorem kb_int_int : kitB "int" "int" = some true := by decide +kernel
theorem kb_int_str : kitB "int" "str" = some false := by decide +kernel
theorem kb_int_tuple : kitB "int" "tuple" = some false := by decide +kernel
theorem kb_int_list : kitB "int" "list" = some false := by decide +kernel
theorem kb_str_bool : kitB "str" "bool" = some false := by decide +kernel
theorem kb_str_int : kitB "str" "int" = some false := by decide +kernel
theorem kb_str_str : kitB "str" "str" = some true := by decide +kernel
theorem kb_str_tuple : kitB "str" "tuple" = some false := by decide +kernel
theorem kb_str_list : kitB "str" "list" = some false := by decide +kernel
theorem kb_list_bool : kitB "list" "bool" = some false := by decide +kernel
theorem kb_list_int : kitB "list" "int" = some false := by decide +kernel
theorem kb_list_str : kitB "list" "str" = some false := by decide +kernel
theorem kb_list_tuple : kitB "list" "tuple" = some false := by decide +kernel
theorem kb_list_list : kitB "list" "list" = some true := by decide +kernel
theorem kb_tuple_bool : kitB "tuple" "bool" = some false := by decide +kernel
theorem kb_tuple_int : kitB "tuple" "int" = some false := by decide +kernel
theorem kb_tuple_str : kitB "tuple" "str" = some false := by decide +kernel
theorem kb_tuple_tuple : kitB "tuple" "tuple" = some true := by decide +kernel
theorem kb_tuple_list : kitB "tuple" "list" = some false := by decide +kernel
theorem ite_nf {A B : Prop} (h : A) : if (!false) = true then A else B := h
theorem ite_nt {A B : Prop} (h : B) : if (!true) = true then A else B := h
/-! more loops; comprehensions -/
section
variable {σ : L2.St} {H : Hp} {Q : VK} {K : PySem.W.Frag} {nx : L2.St → Hp → Prop} {rt : VK}
theorem w_gTup {a : Addr} {xs : List V} {n : Nat} {t : TGs} {N : L2.St → Hp → Prop} (h : SqT K H a xs) (hl : xs.length = n) (q : t xs σ H N) : gTup K n t (.ref a) σ H N := ⟨a, xs, rfl, h, hl, q⟩
theorem w_gCons {t : TG} {u : TGs} {v : V} {r : List V} {N : L2.St → Hp → Prop} (q : t v σ H fun σ' H' => u r σ' H' N) : gCons t u (v :: r) σ H N := ⟨v, r, rfl, q⟩
theorem w_gNil {N : L2.St → Hp → Prop} (q : N σ H) : gNil [] σ H N := ⟨rfl, q⟩
theorem w_yes {QB : Bool → Hp → Prop} (q : QB true H) : tYes σ H QB := q
theorem w_wipe {s s' : L2.St} {vs : List Nat} {B : Prop} (e : wipe s vs = wipe s' vs) (q : B) : wipe s vs = wipe s' vs ∧ B := ⟨e, q⟩
theorem w_iEnum {tt : TA} {R : It → Hp → Prop} (h : tt σ H fun vs H1 => ∃ a xs, vs = [.ref a] ∧ SqL K H1 a xs ∧ R (Ite K a) H1) : iEnum K tt σ H R := h
theorem f_enum {g : TG} {tb : TS} {a : Addr} (xs : List V) (hq : SqL K H a xs) (Pv : Nat → L2.St → Hp → Prop) (h0 : Pv 0 σ H) (hl : ∀ i σ H, i ≤ xs.length → Pv i σ H → SqL K H a xs)
    (hs : ∀ (i : Nat) x T σ H, xs[i]? = some x → Pv i σ H → H T = none → g (.ref T) σ (upd H T (.tup [.int (i : Int), x])) fun σ2 H2 => tb ⟨Pv (i + 1), rt, nx, Pv (i + 1)⟩ σ2 H2) (hd : ∀ σ H, Pv xs.length σ H → nx σ H) :
    ∃ b ys, [V.ref a] = [.ref b] ∧ SqL K H b ys ∧ ∃ W : Nat → Nat → L2.St → Hp → Prop, (∃ m, W 0 m σ H) ∧ ∀ i m σ H, W i m σ H →
      ((Ite K b).stop i H ∧ nx σ H) ∨ ((Ite K b).go i H ∧ ∃ N : L2.St → Hp → Prop, (∀ σ' H', N σ' H' → ∃ m', m' < m ∧ W (i + 1) m' σ' H') ∧ ∀ x H', (Ite K b).yld i H x H' → g x σ H' fun σ2 H2 => tb ⟨N, rt, nx, N⟩ σ2 H2) := by
  refine ⟨a, xs, rfl, hq, fun i m σ H => m = xs.length - i ∧ i ≤ xs.length ∧ Pv i σ H, ⟨xs.length, by simp, Nat.zero_le _, h0⟩, ?_⟩
  rintro i m σ H ⟨rfl, hi, p⟩
  have q := hl i σ H hi p
  by_cases hlt : i < xs.length
  · refine .inr ⟨⟨xs, xs[i], q, by simp [hlt]⟩, Pv (i + 1), fun σ' H' p' => ⟨xs.length - (i + 1), by omega, rfl, hlt, p'⟩, fun x H' y => ?_⟩
    obtain ⟨T, z, rfl, hT, rfl, hx⟩ := y
    exact hs i z T σ H (hx xs q) p hT
  · have e : i = xs.length := by omega
    subst e
    exact .inl ⟨⟨xs, q, Nat.le_refl _⟩, hd σ H p⟩
/-- a comprehension's list so far, at D -/
def LcI (Pv : Addr → Nat → List V → Hp → Prop) (D : Addr) (i : Nat) (H : Hp) : Prop := ∃ acc, Pv D i acc H ∧ H D = some (.lst acc) ∧ acc.length ≤ i
theorem lc_end {Pv : Addr → Nat → List V → Hp → Prop} {D : Addr} {i : Nat} {acc : List V} {y : V} (h : H D = some (.lst acc)) (hl : acc.length ≤ i) (hi : i < 99999) (p : Pv D (i + 1) (acc ++ [y]) (upd H D (.lst (acc ++ [y])))) :
    ∃ acc, H D = some (.lst acc) ∧ acc.length < sizeLine ∧ LcI Pv D (i + 1) (upd H D (.lst (acc ++ [y]))) := ⟨acc, h, sz_lt (by omega), acc ++ [y], p, upd_same, by simp; omega⟩
theorem l_list {g : TG} {tt : TT} {te : TE} {vs : List Nat} {Qd : Addr → Hp → Prop} {a : Addr} (xs : List V) (hq : SqL K H a xs) (Pv : Addr → Nat → List V → Hp → Prop) (h0 : ∀ D, H D = none → Pv D 0 [] (upd H D (.lst [])))
    (hl : ∀ D i acc H', H D = none → Pv D i acc H' → H' D = some (.lst acc) → SqL K H' a xs)
    (hs : ∀ D (i : Nat) x acc H', H D = none → xs[i]? = some x → Pv D i acc H' → H' D = some (.lst acc) → acc.length ≤ i → g x (wipe σ vs) H' fun σ2 H2 => wipe σ2 vs = wipe σ vs ∧ tt σ2 H2 fun b H3 =>
      if b = true then te σ2 H3 fun y H4 => ∃ acc, H4 D = some (.lst acc) ∧ acc.length < sizeLine ∧ LcI Pv D (i + 1) (upd H4 D (.lst (acc ++ [y]))) else LcI Pv D (i + 1) H3)
    (hd : ∀ D acc H', H D = none → Pv D xs.length acc H' → H' D = some (.lst acc) → acc.length ≤ xs.length → Qd D H') :
    ∃ b, V.ref a = V.ref b ∧ (∃ xs, SqL K H b xs) ∧ ∀ D, H D = none → ∃ W : Nat → Nat → Hp → Prop, (∃ m, W 0 m (upd H D (.lst []))) ∧ ∀ i m H, W i m H →
      ((Itl K b).stop i H ∧ Qd D H) ∨ ((Itl K b).go i H ∧ ∃ Nx : Hp → Prop, (∀ H', Nx H' → ∃ m', m' < m ∧ W (i + 1) m' H') ∧ ∀ x H', (Itl K b).yld i H x H' → g x (wipe σ vs) H' fun σ2 H2 => wipe σ2 vs = wipe σ vs ∧ tt σ2 H2 fun b H3 =>
        if b = true then te σ2 H3 fun y H4 => ∃ acc, H4 D = some (.lst acc) ∧ acc.length < sizeLine ∧ Nx (upd H4 D (.lst (acc ++ [y]))) else Nx H3) := by
  refine ⟨a, rfl, ⟨xs, hq⟩, fun D hD => lc_list (K := K) (a := a) (xs := xs) (LcI Pv D) ⟨[], h0 D hD, upd_same, Nat.le_refl _⟩ (fun i H' _ ⟨acc, p, e, _⟩ => hl D i acc H' hD p e) (fun i x H' hx ⟨acc, p, e, l⟩ => hs D i x acc H' hD hx p e l) (fun H' ⟨acc, p, e, l⟩ => hd D acc H' hD p e l)⟩
theorem l_rng1 {g : TG} {tt : TT} {te : TE} {vs : List Nat} {Qd : Addr → Hp → Prop} {j : Int} (hj : j < 2 ^ 62) (h0' : 0 ≤ j) (Pv : Addr → Nat → List V → Hp → Prop) (h0 : ∀ D, H D = none → Pv D 0 [] (upd H D (.lst [])))
    (hs : ∀ D (i : Nat) acc H', H D = none → (i : Int) < j → Pv D i acc H' → H' D = some (.lst acc) → acc.length ≤ i → g (.int (i : Int)) (wipe σ vs) H' fun σ2 H2 => wipe σ2 vs = wipe σ vs ∧ tt σ2 H2 fun b H3 =>
      if b = true then te σ2 H3 fun y H4 => ∃ acc, H4 D = some (.lst acc) ∧ acc.length < sizeLine ∧ LcI Pv D (i + 1) (upd H4 D (.lst (acc ++ [y]))) else LcI Pv D (i + 1) H3)
    (hd : ∀ D acc H', H D = none → Pv D j.toNat acc H' → H' D = some (.lst acc) → acc.length ≤ j.toNat → Qd D H') :
    ∃ k : Int, [V.int j] = [V.int k] ∧ -(2 ^ 62) ≤ k ∧ k < 2 ^ 62 ∧ ∀ D, H D = none → ∃ W : Nat → Nat → Hp → Prop, (∃ m, W 0 m (upd H D (.lst []))) ∧ ∀ i m H, W i m H →
      ((Itr 0 k.toNat).stop i H ∧ Qd D H) ∨ ((Itr 0 k.toNat).go i H ∧ ∃ Nx : Hp → Prop, (∀ H', Nx H' → ∃ m', m' < m ∧ W (i + 1) m' H') ∧ ∀ x H', (Itr 0 k.toNat).yld i H x H' → g x (wipe σ vs) H' fun σ2 H2 => wipe σ2 vs = wipe σ vs ∧ tt σ2 H2 fun b H3 =>
        if b = true then te σ2 H3 fun y H4 => ∃ acc, H4 D = some (.lst acc) ∧ acc.length < sizeLine ∧ Nx (upd H4 D (.lst (acc ++ [y]))) else Nx H3) := by
  refine ⟨j, rfl, by omega, hj, fun D hD => lc_range (lo := 0) (n := j.toNat) (LcI Pv D) ⟨[], h0 D hD, upd_same, Nat.le_refl _⟩ (fun i H' hi ⟨acc, p, e, l⟩ => ?_) (fun H' ⟨acc, p, e, l⟩ => hd D acc H' hD p e l)⟩
  have e0 : (0 : Int) + (i : Int) = (i : Int) := Int.zero_add _
  rw [e0]
  exact hs D i acc H' hD (by omega) p e l
theorem l_rng2 {g : TG} {tt : TT} {te : TE} {vs : List Nat} {Qd : Addr → Hp → Prop} {lo hi : Int} (h1 : -(2 ^ 62) ≤ lo) (h2 : lo < 2 ^ 62) (h3 : -(2 ^ 62) ≤ hi) (h4 : hi < 2 ^ 62) (Pv : Addr → Nat → List V → Hp → Prop) (h0 : ∀ D, H D = none → Pv D 0 [] (upd H D (.lst [])))
    (hs : ∀ D (i : Nat) acc H', H D = none → lo + (i : Int) < hi → Pv D i acc H' → H' D = some (.lst acc) → acc.length ≤ i → g (.int (lo + (i : Int))) (wipe σ vs) H' fun σ2 H2 => wipe σ2 vs = wipe σ vs ∧ tt σ2 H2 fun b H3 =>
      if b = true then te σ2 H3 fun y H4 => ∃ acc, H4 D = some (.lst acc) ∧ acc.length < sizeLine ∧ LcI Pv D (i + 1) (upd H4 D (.lst (acc ++ [y]))) else LcI Pv D (i + 1) H3)
    (hd : ∀ D acc H', H D = none → Pv D (hi - lo).toNat acc H' → H' D = some (.lst acc) → acc.length ≤ (hi - lo).toNat → Qd D H') :
    ∃ i j : Int, [V.int lo, V.int hi] = [.int i, .int j] ∧ (-(2 ^ 62) ≤ i ∧ i < 2 ^ 62 ∧ -(2 ^ 62) ≤ j ∧ j < 2 ^ 62) ∧ ∀ D, H D = none → ∃ W : Nat → Nat → Hp → Prop, (∃ m, W 0 m (upd H D (.lst []))) ∧ ∀ k m H, W k m H →
      ((Itr i (j - i).toNat).stop k H ∧ Qd D H) ∨ ((Itr i (j - i).toNat).go k H ∧ ∃ Nx : Hp → Prop, (∀ H', Nx H' → ∃ m', m' < m ∧ W (k + 1) m' H') ∧ ∀ x H', (Itr i (j - i).toNat).yld k H x H' → g x (wipe σ vs) H' fun σ2 H2 => wipe σ2 vs = wipe σ vs ∧ tt σ2 H2 fun b H3 =>
        if b = true then te σ2 H3 fun y H4 => ∃ acc, H4 D = some (.lst acc) ∧ acc.length < sizeLine ∧ Nx (upd H4 D (.lst (acc ++ [y]))) else Nx H3) := by
  refine ⟨lo, hi, rfl, ⟨h1, h2, h3, h4⟩, fun D hD => lc_range (lo := lo) (n := (hi - lo).toNat) (LcI Pv D) ⟨[], h0 D hD, upd_same, Nat.le_refl _⟩ (fun i H' hi' ⟨acc, p, e, l⟩ => ?_) (fun H' ⟨acc, p, e, l⟩ => hd D acc H' hD p e l)⟩
  exact hs D i acc H' hD (by omega) p e l
theorem l_enum {g : TG} {tt : TT} {te : TE} {vs : List Nat} {Qd : Addr → Hp → Prop} {a : Addr} (xs : List V) (hq : SqL K H a xs) (Pv : Addr → Nat → List V → Hp → Prop) (h0 : ∀ D, H D = none → Pv D 0 [] (upd H D (.lst [])))
    (hl : ∀ D i acc H', H D = none → Pv D i acc H' → H' D = some (.lst acc) → SqL K H' a xs)
    (hs : ∀ D (i : Nat) x T acc H', H D = none → xs[i]? = some x → Pv D i acc H' → H' D = some (.lst acc) → acc.length ≤ i → H' T = none → g (.ref T) (wipe σ vs) (upd H' T (.tup [.int (i : Int), x])) fun σ2 H2 => wipe σ2 vs = wipe σ vs ∧ tt σ2 H2 fun b H3 =>
      if b = true then te σ2 H3 fun y H4 => ∃ acc, H4 D = some (.lst acc) ∧ acc.length < sizeLine ∧ LcI Pv D (i + 1) (upd H4 D (.lst (acc ++ [y]))) else LcI Pv D (i + 1) H3)
    (hd : ∀ D acc H', H D = none → Pv D xs.length acc H' → H' D = some (.lst acc) → acc.length ≤ xs.length → Qd D H') :
    ∃ b ys, [V.ref a] = [V.ref b] ∧ SqL K H b ys ∧ ∀ D, H D = none → ∃ W : Nat → Nat → Hp → Prop, (∃ m, W 0 m (upd H D (.lst []))) ∧ ∀ i m H, W i m H →
      ((Ite K b).stop i H ∧ Qd D H) ∨ ((Ite K b).go i H ∧ ∃ Nx : Hp → Prop, (∀ H', Nx H' → ∃ m', m' < m ∧ W (i + 1) m' H') ∧ ∀ x H', (Ite K b).yld i H x H' → g x (wipe σ vs) H' fun σ2 H2 => wipe σ2 vs = wipe σ vs ∧ tt σ2 H2 fun b H3 =>
        if b = true then te σ2 H3 fun y H4 => ∃ acc, H4 D = some (.lst acc) ∧ acc.length < sizeLine ∧ Nx (upd H4 D (.lst (acc ++ [y]))) else Nx H3) := by
  refine ⟨a, xs, rfl, hq, fun D hD => ⟨fun i m H' => m = xs.length - i ∧ i ≤ xs.length ∧ LcI Pv D i H', ⟨xs.length, by simp, Nat.zero_le _, [], h0 D hD, upd_same, Nat.le_refl _⟩, ?_⟩⟩
  rintro i m H' ⟨rfl, hi, acc, p, e, l⟩
  have q := hl D i acc H' hD p e
  by_cases hlt : i < xs.length
  · refine .inr ⟨⟨xs, xs[i], q, by simp [hlt]⟩, LcI Pv D (i + 1), fun H2 p' => ⟨xs.length - (i + 1), by omega, rfl, hlt, p'⟩, fun x H2 y => ?_⟩
    obtain ⟨T, z, rfl, hT, rfl, hx⟩ := y
    exact hs D i z T acc H' hD (hx xs q) p e l hT
  · have e' : i = xs.length := by omega
    subst e'
    exact .inl ⟨⟨xs, q, Nat.le_refl _⟩, hd D acc H' hD p e l⟩
theorem w_lc {wi : TI} {g : TG} {tt : TT} {te : TE} {vs : List Nat} (h : wi σ H fun J H1 => ∀ D, H1 D = none → ∃ W : Nat → Nat → Hp → Prop, (∃ m, W 0 m (upd H1 D (.lst []))) ∧ ∀ i m H, W i m H →
  (J.stop i H ∧ Q (.ref D) H) ∨ (J.go i H ∧ ∃ Nx : Hp → Prop, (∀ H', Nx H' → ∃ m', m' < m ∧ W (i + 1) m' H') ∧ ∀ x H', J.yld i H x H' → g x (wipe σ vs) H' fun σ2 H2 => wipe σ2 vs = wipe σ vs ∧ tt σ2 H2 fun b H3 =>
    if b = true then te σ2 H3 fun y H4 => ∃ acc, H4 D = some (.lst acc) ∧ acc.length < sizeLine ∧ Nx (upd H4 D (.lst (acc ++ [y]))) else Nx H3)) : tLc wi g tt te vs σ H Q := h
end
theorem take_snoc {α : Type} {xs : List α} {i : Nat} {x : α} (h : xs[i]? = some x) : xs.take (i + 1) = xs.take i ++ [x] := by
  obtain ⟨hi, rfl⟩ := List.getElem?_eq_some_iff.mp h
  rw [List.take_succ, List.getElem?_eq_getElem hi]
  rfl
theorem dpall_snoc {K : PySem.W.Frag} {H : Hp} {v : V} {d : PyData} (h : Dp K H v d) : ∀ {xs : List V} {ds : List PyData}, DpAll K H xs ds → DpAll K H (xs ++ [v]) (ds ++ [d])
  | _, _, .nil => .cons h .nil
  | _, _, .cons a t => .cons a (dpall_snoc h t)
theorem Fr.dpa {K : PySem.W.Frag} {H H' : Hp} (f : Fr [] H H') : ∀ {vs : List V} {ds : List PyData}, DpAll K H vs ds → DpAll K H' vs ds
  | _, _, .nil => .nil
  | _, _, .cons a t => .cons (f.dp _ _ a) (Fr.dpa f t)
theorem f_while {c : TT} {tb : TS} {σ : L2.St} {H : Hp} {nx : L2.St → Hp → Prop} {rt : VK} {bk ct : L2.St → Hp → Prop} (W : Nat → L2.St → Hp → Prop) (m : Nat) (h0 : W m σ H)
    (hs : ∀ m σ H, W m σ H → c σ H fun b H1 => if b = true then ∃ N : L2.St → Hp → Prop, (∀ σ' H', N σ' H' → ∃ m', m' < m ∧ W m' σ' H') ∧ tb ⟨N, rt, nx, N⟩ σ H1 else nx σ H1) : tWhile c tb ⟨nx, rt, bk, ct⟩ σ H := ⟨W, ⟨m, h0⟩, hs⟩
theorem w_turn {tb : TS} {σ : L2.St} {H : Hp} {nx : L2.St → Hp → Prop} {rt : VK} {m : Nat} {W : Nat → L2.St → Hp → Prop} (h : tb ⟨fun σ' H' => ∃ m', m' < m ∧ W m' σ' H', rt, nx, fun σ' H' => ∃ m', m' < m ∧ W m' σ' H'⟩ σ H) :
    ∃ N : L2.St → Hp → Prop, (∀ σ' H', N σ' H' → ∃ m', m' < m ∧ W m' σ' H') ∧ tb ⟨N, rt, nx, N⟩ σ H := ⟨_, fun _ _ h => h, h⟩
/-! data made new beside H: it stays whatever of H's objects is changed -/
def Nw (K : PySem.W.Frag) (H H' : Hp) (v : V) (d : PyData) : Prop := ∀ W H'', (∀ w ∈ W, H w ≠ none) → Fr W H' H'' → Dp K H'' v d
def NwA (K : PySem.W.Frag) (H H' : Hp) (xs : List V) (ds : List PyData) : Prop := ∀ W H'', (∀ w ∈ W, H w ≠ none) → Fr W H' H'' → DpAll K H'' xs ds
section
variable {K : PySem.W.Frag} {H H' H2 H0 : Hp} {v : V} {d : PyData} {xs : List V} {ds : List PyData} {W : List Addr} {t : Addr}
theorem Nw.now (h : Nw K H H' v d) : Dp K H' v d := h [] H' (by simp) .refl
theorem NwA.now (h : NwA K H H' xs ds) : DpAll K H' xs ds := h [] H' (by simp) .refl
theorem Nw.tup (ht : H t = none) (h : H' t = some (.tup xs)) (ha : NwA K H H' xs ds) : Nw K H H' (.ref t) (.tuple ds) := fun W H'' hw f => .tup (SqT.of (f.get h fun m => hw t m ht)) (ha W H'' hw f)
theorem Nw.lst (ht : H t = none) (h : H' t = some (.lst xs)) (ha : NwA K H H' xs ds) : Nw K H H' (.ref t) (.list ds) := fun W H'' hw f => .lst (SqL.of (f.get h fun m => hw t m ht)) (ha W H'' hw f)
theorem NwA.nil : NwA K H H' [] [] := fun _ _ _ _ => .nil
theorem NwA.cons (h : Nw K H H' v d) (ha : NwA K H H' xs ds) : NwA K H H' (v :: xs) (d :: ds) := fun W H'' hw f => .cons (h W H'' hw f) (ha W H'' hw f)
theorem NwA.snoc (ha : NwA K H H' xs ds) (h : Nw K H H' v d) : NwA K H H' (xs ++ [v]) (ds ++ [d]) := fun W H'' hw f => dpall_snoc (h W H'' hw f) (ha W H'' hw f)
theorem Nw.step (h : Nw K H H' v d) (hw : ∀ w ∈ W, H w ≠ none) (f : Fr W H' H2) : Nw K H H2 v d := fun W2 H'' hw2 f2 =>
  h (W ++ W2) H'' (fun w m => (List.mem_append.mp m).elim (hw w) (hw2 w)) ((f.mono fun w m => List.mem_append_left _ m).trans (f2.mono fun w m => List.mem_append_right _ m))
theorem NwA.step (h : NwA K H H' xs ds) (hw : ∀ w ∈ W, H w ≠ none) (f : Fr W H' H2) : NwA K H H2 xs ds := fun W2 H'' hw2 f2 =>
  h (W ++ W2) H'' (fun w m => (List.mem_append.mp m).elim (hw w) (hw2 w)) ((f.mono fun w m => List.mem_append_left _ m).trans (f2.mono fun w m => List.mem_append_right _ m))
theorem Nw.base (h : Nw K H H' v d) (f : Fr W H0 H) : Nw K H0 H' v d := fun W2 H'' hw f2 => h W2 H'' (fun w m e => hw w m (f.2 w e)) f2
theorem NwA.base (h : NwA K H H' xs ds) (f : Fr W H0 H) : NwA K H0 H' xs ds := fun W2 H'' hw f2 => h W2 H'' (fun w m e => hw w m (f.2 w e)) f2
theorem Nw.int (i : Int) : Nw K H H' (.int i) (.int i) := fun _ _ _ _ => .int i
theorem Nw.bl (b : Bool) : Nw K H H' (.bl b) (.bool b) := fun _ _ _ _ => .bl b
theorem Nw.non : Nw K H H' .non .none := fun _ _ _ _ => .non
theorem NwA.ints (ns : List Int) : NwA K H H' (ns.map V.int) (ns.map PyData.int) := fun _ _ _ _ => dp_ints ns
end
theorem ne_of_some {H : Hp} {p : Addr} {o : HO} (h : H p = some o) : H p ≠ none := fun e => by rw [e] at h; cases h
/-! rules with the written part told by name (in a comprehension's block the context is a bound one) -/
section
variable {X : Cx} (K : PySem.W.Frag) (h : X.K = K)
include h
theorem kIxL : IxR X (rIxL K) := h ▸ ix_list
theorem kIxT : IxR X (rIxT K) := h ▸ ix_tup
theorem kIxQ : IxR X (rIx K) := h ▸ ix_seq
theorem kIn : OpR X (compareOp .In) (rIn K false) := h ▸ op_in_seq
theorem kNi : OpR X (compareOp .NotIn) (rIn K true) := h ▸ op_notIn_seq
theorem kEqD (hu : X.A.units + 64 < cLine) : OpR X (compareOp .Eq) (rEqD K) := h ▸ op_eqD hu
theorem kNeD (hu : X.A.units + 64 < cLine) : OpR X (compareOp .NotEq) (rNeD K) := h ▸ op_neD hu
theorem kLen : CallR X (.builtin "len") (rLen K) := h ▸ cr_len
theorem kList : CallR X (.type "list") (rList K) := h ▸ cr_list
theorem kSlL : SlR X (rSlL K) := h ▸ sl_list
theorem kSlT : SlR X (rSlT K) := h ▸ sl_tup
theorem kIsi : CallR X (.builtin "isinstance") (rIsi K) := h ▸ call_isi
theorem kIndex : MtR X "list.index" (rIndex K) := h ▸ mt_index
end
theorem kBM {X : Cx} {K : PySem.W.Frag} {e : Expr} {T : String} {r : V → List V → Hp → VK → Prop} {to : TE} {t : TA} (h : X.K = K) (p : PE X e (tBM X.K T r to t)) : PE X e (tBM K T r to t) := h ▸ p
theorem kBM0 {X : Cx} {K : PySem.W.Frag} {e : Expr} {T : String} {r : V → List V → Hp → VK → Prop} {to : TE} (h : X.K = K) (p : PE X e (tBM0 X.K T r to)) : PE X e (tBM0 K T r to) := h ▸ p
theorem kFld {X : Cx} {K : PySem.W.Frag} {e : Expr} {f : Str} {ta : TE} (h : X.K = K) (p : PE X e (tFld X.K ta f)) : PE X e (tFld K ta f) := h ▸ p
theorem kTup {X : Cx} {K : PySem.W.Frag} {e : Expr} {n : Nat} {t : TGs} (h : X.K = K) (p : PG X e (gTup X.K n t)) : PG X e (gTup K n t) := h ▸ p
theorem kIL {X : Cx} {K : PySem.W.Frag} {e l : Expr} {t : TE} (h : X.K = K) (p : PI X e l (iList X.K t)) : PI X e l (iList K t) := h ▸ p
theorem kIT {X : Cx} {K : PySem.W.Frag} {e l : Expr} {t : TE} (h : X.K = K) (p : PI X e l (iTup X.K t)) : PI X e l (iTup K t) := h ▸ p
theorem kIE {X : Cx} {K : PySem.W.Frag} {e l : Expr} {t : TA} (h : X.K = K) (p : PI X e l (iEnum X.K t)) : PI X e l (iEnum K t) := h ▸ p
end Cw

namespace Cw
open PySem L2
/-! the hand's dial, in plain words -/
def oV : Option Int → V
  | none => .non
  | some i => .int i
structure Dl where
  here : List (Option Int)
  seen : List Bool
  hand : Nat
  lacks : Nat
def Dl.new (n : Nat) : Dl := ⟨List.replicate n none, List.replicate n false, 0, 0⟩
def spin (n : Nat) : Nat → List Bool → Nat → List Bool × Nat × List Nat
  | 0, s, h => (s, h, [])
  | k + 1, s, h => if s[h]? = some true then ((spin n k (s.set h false) ((h + 1) % n)).1, (spin n k (s.set h false) ((h + 1) % n)).2.1, h :: (spin n k (s.set h false) ((h + 1) % n)).2.2) else (s, h, [])
def Dl.spin (d : Dl) : List Bool × Nat × List Nat := Cw.spin d.here.length (d.seen.count true) d.seen d.hand
structure Tl where
  lack : Bool
  gone : Option Int
  passed : List Nat
def Dl.ask (d : Dl) (x : Int) : Dl × Tl :=
  if some x ∈ d.here then ({ d with seen := d.seen.set (d.here.idxOf (some x)) true }, ⟨false, none, []⟩)
  else (⟨d.here.set d.spin.2.1 (some x), d.spin.1.set d.spin.2.1 true, (d.spin.2.1 + 1) % d.here.length, d.lacks + 1⟩, ⟨true, (d.here[d.spin.2.1]?).join, d.spin.2.2⟩)
structure Dl.Wf (d : Dl) (n : Nat) : Prop where
  n0 : 0 < n
  n8 : n ≤ 8
  hl : d.here.length = n
  sl : d.seen.length = n
  hd : d.hand < n
  mark : ∀ i : Nat, d.seen[i]? = some true → ∃ x : Int, d.here[i]? = some (some x)
theorem spin_stop {n : Nat} {s : List Bool} {h : Nat} (e : ¬ s[h]? = some true) : ∀ k, spin n k s h = (s, h, [])
  | 0 => rfl
  | k + 1 => by unfold spin; rw [if_neg e]
theorem count_off {s : List Bool} {h : Nat} (e : s[h]? = some true) : s.count true = (s.set h false).count true + 1 := by
  obtain ⟨hl, e'⟩ := List.getElem?_eq_some_iff.mp e
  have hp : 0 < s.count true := List.count_pos_iff.mpr (e' ▸ List.getElem_mem hl)
  rw [List.count_set hl, e']
  simp
  omega
theorem spin_go {n : Nat} {s : List Bool} {h : Nat} (e : s[h]? = some true) : spin n (s.count true) s h =
    ((spin n ((s.set h false).count true) (s.set h false) ((h + 1) % n)).1, (spin n ((s.set h false).count true) (s.set h false) ((h + 1) % n)).2.1, h :: (spin n ((s.set h false).count true) (s.set h false) ((h + 1) % n)).2.2) := by
  rw [count_off e]
  show (if s[h]? = some true then _ else _) = _
  rw [if_pos e]
theorem spin_facts {n : Nat} (n0 : 0 < n) : ∀ (k : Nat) (s : List Bool) (h : Nat), s.count true ≤ k → s.length = n → h < n →
    (spin n k s h).1.length = n ∧ (spin n k s h).2.1 < n ∧ (¬ (spin n k s h).1[(spin n k s h).2.1]? = some true) ∧ (∀ i : Nat, (spin n k s h).1[i]? = some true → s[i]? = some true)
  | 0, s, h, hk, hl, hh => by
    refine ⟨hl, hh, ?_, fun i e => e⟩
    intro e
    have e' : s[h]? = some true := e
    have := count_off e'
    omega
  | k + 1, s, h, hk, hl, hh => by
    by_cases e : s[h]? = some true
    · have hc := count_off e
      have ih := spin_facts n0 k (s.set h false) ((h + 1) % n) (by omega) (by rw [List.length_set]; exact hl) (Nat.mod_lt _ n0)
      have q : spin n (k + 1) s h = ((spin n k (s.set h false) ((h + 1) % n)).1, (spin n k (s.set h false) ((h + 1) % n)).2.1, h :: (spin n k (s.set h false) ((h + 1) % n)).2.2) := by
        show (if s[h]? = some true then _ else _) = _
        rw [if_pos e]
      rw [q]
      refine ⟨ih.1, ih.2.1, ih.2.2.1, fun i hi => ?_⟩
      have z := ih.2.2.2 i hi
      by_cases hi' : i = h
      · rw [hi']; exact e
      · rw [List.getElem?_set_ne (fun z => hi' z.symm)] at z
        exact z
    · rw [spin_stop e]; exact ⟨hl, hh, e, fun i e => e⟩
theorem Dl.Wf.new {n : Nat} (n0 : 0 < n) (n8 : n ≤ 8) : (Dl.new n).Wf n := ⟨n0, n8, by simp [Dl.new], by simp [Dl.new], n0, fun i e => by
  have e' : (List.replicate n false)[i]? = some true := e
  rw [List.getElem?_replicate] at e'
  split at e' <;> simp at e'⟩
theorem Dl.Wf.ask {d : Dl} {n : Nat} (w : d.Wf n) (x : Int) : (d.ask x).1.Wf n := by
  obtain ⟨n0, n8, hl, sl, hd, mk⟩ := w
  unfold Dl.ask
  split
  · rename_i hm
    refine ⟨n0, n8, hl, by simp [sl], hd, fun i e => ?_⟩
    have e' : (d.seen.set (d.here.idxOf (some x)) true)[i]? = some true := e
    by_cases hi : i = d.here.idxOf (some x)
    · subst hi
      exact ⟨x, by rw [List.getElem?_eq_getElem (List.idxOf_lt_length_iff.mpr hm)]; simp⟩
    · rw [List.getElem?_set_ne (fun z => hi z.symm)] at e'
      exact mk i e'
  · have f := spin_facts n0 (d.seen.count true) d.seen d.hand (Nat.le_refl _) sl hd
    have es : d.spin = Cw.spin n (d.seen.count true) d.seen d.hand := by unfold Dl.spin; rw [hl]
    refine ⟨n0, n8, by simp [hl], by simp [es, f.1], ?_, fun i e => ?_⟩
    · show (d.spin.2.1 + 1) % d.here.length < n
      rw [hl]; exact Nat.mod_lt _ n0
    · have e' : (d.spin.1.set d.spin.2.1 true)[i]? = some true := e
      by_cases h : i = d.spin.2.1
      · subst h
        refine ⟨x, ?_⟩
        show (d.here.set d.spin.2.1 (some x))[d.spin.2.1]? = _
        rw [List.getElem?_set_self (by rw [hl, es]; exact f.2.1)]
      · rw [List.getElem?_set_ne (fun z => h z.symm), es] at e'
        obtain ⟨y, hy⟩ := mk i (f.2.2.2 i e')
        refine ⟨y, ?_⟩
        show (d.here.set d.spin.2.1 (some x))[i]? = _
        rw [List.getElem?_set_ne (fun z => h z.symm)]; exact hy
/-- all asks of a row -/
def askAll : Dl → List Int → List Tl
  | _, [] => []
  | d, x :: r => (d.ask x).2 :: askAll (d.ask x).1 r
def endAll : Dl → List Int → Dl
  | d, [] => d
  | d, x :: r => endAll (d.ask x).1 r
theorem askAll_app : ∀ (d : Dl) (a b : List Int), askAll d (a ++ b) = askAll d a ++ askAll (endAll d a) b
  | _, [], _ => rfl
  | d, x :: r, b => by simp [askAll, endAll, askAll_app]
theorem endAll_app : ∀ (d : Dl) (a b : List Int), endAll d (a ++ b) = endAll (endAll d a) b
  | _, [], _ => rfl
  | d, x :: r, b => by simp [endAll, endAll_app]
theorem askAll_len : ∀ (d : Dl) (a : List Int), (askAll d a).length = a.length
  | _, [] => rfl
  | d, x :: r => by simp [askAll, askAll_len]
theorem endAll_wf {n : Nat} : ∀ (d : Dl) (a : List Int), d.Wf n → (endAll d a).Wf n
  | _, [], w => w
  | d, x :: r, w => endAll_wf _ r (w.ask x)
/-! pages as values -/
theorem flat_oV (hs : List (Option Int)) : (hs.map oV).all flatV = true := by
  rw [List.all_map, List.all_eq_true]
  intro x _
  cases x <;> rfl
theorem flat_int (ns : List Int) : (ns.map V.int).all flatV = true := by
  rw [List.all_map, List.all_eq_true]
  intro x _
  rfl
theorem in_oV (x : Int) (hs : List (Option Int)) : inV (.int x) (hs.map oV) = decide (some x ∈ hs) := by
  unfold inV
  rw [List.any_map]
  induction hs with
  | nil => rfl
  | cons a r ih =>
    rw [List.any_cons, ih]
    cases a with
    | none => simp [oV, eqV]
    | some y =>
      by_cases e : y = x
      · subst e; simp [oV, eqV]
      · simp [oV, eqV, e, Ne.symm e]
theorem in_int (x : Int) (ns : List Int) : inV (.int x) (ns.map V.int) = decide (x ∈ ns) := by
  unfold inV
  rw [List.any_map]
  induction ns with
  | nil => rfl
  | cons y r ih =>
    rw [List.any_cons, ih]
    by_cases e : y = x
    · subst e; simp [eqV]
    · simp [eqV, e, Ne.symm e]
theorem w_index {K : PySem.W.Frag} {H : Hp} {Q : VK} {a : Addr} {hs : List (Option Int)} {x : Int} (h : SqL K H a (hs.map oV)) (hm : some x ∈ hs) (q : Q (.int ((hs.idxOf (some x) : Nat) : Int)) H) : rIndex K (.ref a) [.int x] H Q := by
  have hl := List.idxOf_lt_length_iff.mpr hm
  refine ⟨a, hs.map oV, .int x, hs.idxOf (some x), .int x, rfl, rfl, h, rfl, flat_oV hs, ?_, by simp [eqV], fun m z' hm' hz => ?_, q⟩
  · rw [List.getElem?_map, List.getElem?_eq_getElem hl]; simp [oV]
  · rw [List.getElem?_map, List.getElem?_eq_getElem (by omega)] at hz
    have hz' : oV hs[m] = z' := Option.some.inj hz
    subst hz'
    have ne : hs[m] ≠ some x := fun e => by
      have z := List.not_of_lt_findIdx (p := (· == some x)) (xs := hs) (i := m) hm'
      simp [e] at z
    cases e : hs[m] with
    | none => rfl
    | some y =>
      rw [e] at ne
      have : y ≠ x := fun z => ne (by rw [z])
      simp [oV, eqV, this]
end Cw
namespace Cw
open PySem L2
/-! a Dial as an object -/
theorem str_hs : ¬ (("here" : Str) = "seen") := by decide +kernel
theorem str_hh : ¬ (("here" : Str) = "hand") := by decide +kernel
theorem str_hl : ¬ (("here" : Str) = "lacks") := by decide +kernel
theorem str_sh : ¬ (("seen" : Str) = "hand") := by decide +kernel
theorem str_sl : ¬ (("seen" : Str) = "lacks") := by decide +kernel
theorem str_al : ¬ (("hand" : Str) = "lacks") := by decide +kernel
def dfl (a b : Addr) (h l : Int) : List (Str × V) := [("here", .ref a), ("seen", .ref b), ("hand", .int h), ("lacks", .int l)]
theorem dfl_made (a b : Addr) (h l : Int) : putF "lacks" (.int l) (putF "hand" (.int h) (putF "seen" (.ref b) (putF "here" (.ref a) []))) = dfl a b h l := by
  simp only [putF, if_neg str_hs, if_neg str_hh, if_neg str_hl, if_neg str_sh, if_neg str_sl, if_neg str_al, dfl]
theorem dfl_hand (a b : Addr) (h l y : Int) : putF "hand" (.int y) (dfl a b h l) = dfl a b y l := by
  simp only [dfl, putF, if_neg str_hh, if_neg str_sh, if_pos]
theorem dfl_lacks (a b : Addr) (h l y : Int) : putF "lacks" (.int y) (dfl a b h l) = dfl a b h y := by
  simp only [dfl, putF, if_neg str_hl, if_neg str_sl, if_neg str_al, if_pos]
theorem dfl_len (a b : Addr) (h l : Int) : (dfl a b h l).length < 1000 := by show 4 < 1000; decide
theorem lk_here (a b : Addr) (h l : Int) : (dfl a b h l).lookup ("here" : Str) = some (.ref a) := by
  rw [← dfl_made, lookup_putF, if_neg str_hl, lookup_putF, if_neg str_hh, lookup_putF, if_neg str_hs, lookup_putF, if_pos rfl]
theorem lk_seen (a b : Addr) (h l : Int) : (dfl a b h l).lookup ("seen" : Str) = some (.ref b) := by
  rw [← dfl_made, lookup_putF, if_neg str_sl, lookup_putF, if_neg str_sh, lookup_putF, if_pos rfl]
theorem lk_hand (a b : Addr) (h l : Int) : (dfl a b h l).lookup ("hand" : Str) = some (.int h) := by
  rw [← dfl_made, lookup_putF, if_neg str_al, lookup_putF, if_pos rfl]
theorem lk_lacks (a b : Addr) (h l : Int) : (dfl a b h l).lookup ("lacks" : Str) = some (.int l) := by
  rw [← dfl_made, lookup_putF, if_pos rfl]
theorem lk_no (a b : Addr) (h l : Int) {m : Str} (h1 : ¬ m = "lacks") (h2 : ¬ m = "hand") (h3 : ¬ m = "seen") (h4 : ¬ m = "here") : (dfl a b h l).lookup m = none := by
  rw [← dfl_made, lookup_putF, if_neg h1, lookup_putF, if_neg h2, lookup_putF, if_neg h3, lookup_putF, if_neg h4]
  rfl
/-- a Dial at p, its lists at a and b -/
def DialAt (C : Addr) (H : Hp) (p a b : Addr) (d : Dl) : Prop := (∃ dx, H p = some (.ins C dx (dfl a b d.hand d.lacks))) ∧ H a = some (.lst (d.here.map oV)) ∧ H b = some (.lst (d.seen.map V.bl))
theorem DialAt.keep {C p a b : Addr} {H H' : Hp} {d : Dl} {W : List Addr} (h : DialAt C H p a b d) (f : Fr W H H') (hp : p ∉ W) (ha : a ∉ W) (hb : b ∉ W) : DialAt C H' p a b d := by
  obtain ⟨⟨dx, h1⟩, h2, h3⟩ := h
  exact ⟨⟨dx, f.get h1 hp⟩, f.get h2 ha, f.get h3 hb⟩
theorem DialAt.keep0 {C p a b : Addr} {H H' : Hp} {d : Dl} (h : DialAt C H p a b d) (f : Fr [] H H') : DialAt C H' p a b d := h.keep f (by simp) (by simp) (by simp)
section
variable {K : PySem.W.Frag} {H : Hp}
theorem w_fld {ta : TE} {f : Str} {σ : L2.St} {Q : VK} (h : ta σ H fun x H1 => ∃ a C dx fs v, x = .ref a ∧ H1 a = some (.ins C dx fs) ∧ Cls K C ∧ NoAttr K C f ∧ fs.lookup f = some v ∧ Q v H1) : tFld K ta f σ H Q := h
theorem w_fldR {p C dx : Addr} {fs : List (Str × V)} {f : Str} {v : V} {P : V → Prop} (h : H p = some (.ins C dx fs)) (c : Cls K C) (n : NoAttr K C f) (l : fs.lookup f = some v) (q : P v) :
    ∃ a C dx fs v, V.ref p = .ref a ∧ H a = some (.ins C dx fs) ∧ Cls K C ∧ NoAttr K C f ∧ fs.lookup f = some v ∧ P v := ⟨p, C, dx, fs, v, rfl, h, c, n, l, q⟩
theorem w_sFld {ta tv : TE} {f : Str} {σ : L2.St} {nx : L2.St → Hp → Prop} {rt : VK} {bk ct : L2.St → Hp → Prop} (h : tv σ H fun y H1 => ta σ H1 fun x H2 => ∃ a C dx fs, x = .ref a ∧ H2 a = some (.ins C dx fs) ∧ Cls K C ∧ NoAttr K C f ∧ fs.length < 1000 ∧ nx σ (upd H2 a (.ins C dx (putF f y fs)))) :
    sFld K ta tv f ⟨nx, rt, bk, ct⟩ σ H := h
theorem w_sFldR {p C dx : Addr} {fs gs : List (Str × V)} {f : Str} {y : V} {N : Hp → Prop} (h : H p = some (.ins C dx fs)) (c : Cls K C) (n : NoAttr K C f) (l : fs.length < 1000) (e : putF f y fs = gs) (q : N (upd H p (.ins C dx gs))) :
    ∃ a C dx fs, V.ref p = .ref a ∧ H a = some (.ins C dx fs) ∧ Cls K C ∧ NoAttr K C f ∧ fs.length < 1000 ∧ N (upd H a (.ins C dx (putF f y fs))) := ⟨p, C, dx, fs, rfl, h, c, n, l, by rw [e]; exact q⟩
theorem w_aug {ta tv : TE} {rd : V → V → Hp → VK → Prop} {f : Str} {σ : L2.St} {nx : L2.St → Hp → Prop} {rt : VK} {bk ct : L2.St → Hp → Prop} (h : ta σ H fun x H1 => ∃ a C dx fs v, x = .ref a ∧ H1 a = some (.ins C dx fs) ∧ Cls K C ∧ NoAttr K C f ∧ fs.lookup f = some v ∧
  tv σ H1 fun y H2 => rd v y H2 fun z H3 => ∃ dx' fs', H3 a = some (.ins C dx' fs') ∧ fs'.length < 1000 ∧ nx σ (upd H3 a (.ins C dx' (putF f z fs')))) : sFldAug K ta tv rd f ⟨nx, rt, bk, ct⟩ σ H := h
theorem w_augR {p C dx : Addr} {fs : List (Str × V)} {f : Str} {v : V} {P : Addr → Addr → V → Prop} (h : H p = some (.ins C dx fs)) (c : Cls K C) (n : NoAttr K C f) (l : fs.lookup f = some v) (q : P p C v) :
    ∃ a C dx fs v, V.ref p = .ref a ∧ H a = some (.ins C dx fs) ∧ Cls K C ∧ NoAttr K C f ∧ fs.lookup f = some v ∧ P a C v := ⟨p, C, dx, fs, v, rfl, h, c, n, l, q⟩
theorem w_rAdd {i j : Int} {Q : VK} (q : Q (.int (i + j)) H) : rAdd (.int i) (.int j) H Q := ⟨i, j, rfl, rfl, q⟩
theorem w_augS {p C dx : Addr} {fs gs : List (Str × V)} {f : Str} {z : V} {N : Hp → Prop} (h : H p = some (.ins C dx fs)) (l : fs.length < 1000) (e : putF f z fs = gs) (q : N (upd H p (.ins C dx gs))) :
    ∃ dx' fs', H p = some (.ins C dx' fs') ∧ fs'.length < 1000 ∧ N (upd H p (.ins C dx' (putF f z fs'))) := ⟨dx, fs, h, l, by rw [e]; exact q⟩
theorem w_make {C : Addr} {sp : Sp} {dvs : List V} {E : XK} {t : TA} {σ : L2.St} {Q : VK} (h : t σ H fun vs H1 => ∀ x dx, H1 x = none → H1 dx = none → dx ≠ x → sp (.ref x :: (vs ++ dvs)) (upd (upd H1 dx (.own x)) x (.ins C dx [])) (fun v H2 => v = .non ∧ Q (.ref x) H2) E) : tMake C sp dvs E t σ H Q := h
theorem w_meth {C : Addr} {m : Str} {sp : Sp} {dvs : List V} {E : XK} {ta : TE} {t : TA} {σ : L2.St} {Q : VK} (h : ta σ H fun x H1 => ∃ a dx fs, x = .ref a ∧ H1 a = some (.ins C dx fs) ∧ fs.lookup m = none ∧ t σ H1 fun vs H2 => sp (x :: (vs ++ dvs)) H2 Q E) : tMeth C m sp dvs E ta t σ H Q := h
theorem w_methR {p C dx : Addr} {fs : List (Str × V)} {m : Str} {B : Prop} (h : H p = some (.ins C dx fs)) (l : fs.lookup m = none) (q : B) : ∃ a dx fs, V.ref p = .ref a ∧ H a = some (.ins C dx fs) ∧ fs.lookup m = none ∧ B := ⟨p, dx, fs, rfl, h, l, q⟩
end
/-! what a dial tells, as data -/
def oD : Option Int → PyData
  | none => .none
  | some i => .int i
def natsD (l : List Nat) : List PyData := l.map fun (i : Nat) => PyData.int (i : Int)
def tlD (t : Tl) : PyData := .tuple [.bool t.lack, oD t.gone, .list (natsD t.passed)]
def toldV (t : Tl) (q : Addr) : List V := [.bl t.lack, oV t.gone, .ref q]
def natsV (l : List Nat) : List V := l.map fun (i : Nat) => V.int (i : Int)
theorem nw_o {K : PySem.W.Frag} {H H' : Hp} (o : Option Int) : Nw K H H' (oV o) (oD o) := by
  cases o
  · exact Nw.non
  · exact Nw.int _
theorem nw_nats {K : PySem.W.Frag} {H H' : Hp} (l : List Nat) : NwA K H H' (natsV l) (natsD l) := by
  have e1 : natsV l = (l.map fun (i : Nat) => (i : Int)).map V.int := by simp [natsV]
  have e2 : natsD l = (l.map fun (i : Nat) => (i : Int)).map PyData.int := by simp [natsD]
  rw [e1, e2]
  exact NwA.ints _
theorem nw_tl {K : PySem.W.Frag} {H H' : Hp} {t q : Addr} (tl : Tl) (ht : H t = none) (hq : H q = none) (h1 : H' t = some (.tup (toldV tl q))) (h2 : H' q = some (.lst (natsV tl.passed))) : Nw K H H' (.ref t) (tlD tl) :=
  Nw.tup ht h1 (.cons (Nw.bl _) (.cons (nw_o _) (.cons (Nw.lst hq h2 (nw_nats _)) .nil)))
end Cw
namespace Cw
open PySem L2
/-! the rules that keep a row of pages -/
def keepS (rooms : Nat) (unseen : Bool) (kept : List Int) (x : Int) : List Int :=
  if x ∈ kept then (if unseen then kept.erase x ++ [x] else kept) else kept.drop (if kept.length = rooms then 1 else 0) ++ [x]
/-- of each ask whether the page lacked -/
def keepAll (rooms : Nat) (unseen : Bool) : List Int → List Int → List Bool
  | _, [] => []
  | kept, x :: r => decide (x ∉ kept) :: keepAll rooms unseen (keepS rooms unseen kept x) r
def keepEnd (rooms : Nat) (unseen : Bool) : List Int → List Int → List Int
  | kept, [] => kept
  | kept, x :: r => keepEnd rooms unseen (keepS rooms unseen kept x) r
structure KOk (rooms : Nat) (kept : List Int) : Prop where
  nd : kept.Nodup
  le : kept.length ≤ rooms
theorem KOk.step {rooms : Nat} {kept : List Int} (n0 : 0 < rooms) (h : KOk rooms kept) (u : Bool) (x : Int) : KOk rooms (keepS rooms u kept x) := by
  obtain ⟨nd, le⟩ := h
  unfold keepS
  split
  · rename_i hm
    split
    · refine ⟨?_, ?_⟩
      · rw [List.nodup_append]
        refine ⟨nd.erase x, by simp, fun a ha b hb => ?_⟩
        simp at hb
        subst hb
        intro e
        subst e
        exact (List.Nodup.mem_erase_iff nd).mp ha |>.1 rfl
      · rw [List.length_append, List.length_erase_of_mem hm]
        have := List.length_pos_of_mem hm
        simp
        omega
    · exact ⟨nd, le⟩
  · rename_i hm
    refine ⟨?_, ?_⟩
    · rw [List.nodup_append]
      refine ⟨nd.sublist (List.drop_sublist _ _), by simp, fun a ha b hb => ?_⟩
      simp at hb
      subst hb
      intro e
      subst e
      exact hm (List.mem_of_mem_drop ha)
    · rw [List.length_append, List.length_drop]
      simp
      split <;> omega
theorem keepAll_app (rooms : Nat) (u : Bool) : ∀ (k a b : List Int), keepAll rooms u k (a ++ b) = keepAll rooms u k a ++ keepAll rooms u (keepEnd rooms u k a) b
  | _, [], _ => rfl
  | k, x :: r, b => by simp [keepAll, keepEnd, keepAll_app]
theorem keepEnd_app (rooms : Nat) (u : Bool) : ∀ (k a b : List Int), keepEnd rooms u k (a ++ b) = keepEnd rooms u (keepEnd rooms u k a) b
  | _, [], _ => rfl
  | k, x :: r, b => by simp [keepEnd, keepEnd_app]
theorem keepAll_len (rooms : Nat) (u : Bool) : ∀ (k a : List Int), (keepAll rooms u k a).length = a.length
  | _, [] => rfl
  | k, x :: r => by simp [keepAll, keepAll_len]
theorem keepEnd_ok {rooms : Nat} (n0 : 0 < rooms) (u : Bool) : ∀ (k a : List Int), KOk rooms k → KOk rooms (keepEnd rooms u k a)
  | _, [], h => h
  | k, x :: r, h => keepEnd_ok n0 u _ r (h.step n0 u x)
/-- whether each ask of a row lacks, by a rule -/
def lackB (rooms : Nat) (z : Str) (row : List Int) : List Bool :=
  if z = Str.ofString "hand" then (askAll (Dl.new rooms) row).map Tl.lack else keepAll rooms (decide (z = Str.ofString "unseen")) [] row
theorem lackB_len (rooms : Nat) (z : Str) (row : List Int) : (lackB rooms z row).length = row.length := by
  unfold lackB
  split
  · rw [List.length_map, askAll_len]
  · exact keepAll_len _ _ _ _
/-- the places of the trues -/
def placesFrom : Nat → List Bool → List Int
  | _, [] => []
  | i, b :: r => if b then (i : Int) :: placesFrom (i + 1) r else placesFrom (i + 1) r
def places (bs : List Bool) : List Int := placesFrom 0 bs
theorem placesFrom_snoc : ∀ (i : Nat) (bs : List Bool) (b : Bool), placesFrom i (bs ++ [b]) = placesFrom i bs ++ (if b then [((i + bs.length : Nat) : Int)] else [])
  | i, [], b => by cases b <;> simp [placesFrom]
  | i, c :: r, b => by
    have h := placesFrom_snoc (i + 1) r b
    have e : i + 1 + r.length = i + (c :: r).length := by simp; omega
    rw [e] at h
    cases c <;> simp [placesFrom, h]
theorem places_snoc (bs : List Bool) (b : Bool) : places (bs ++ [b]) = places bs ++ (if b then [((bs.length : Nat) : Int)] else []) := by
  have h := placesFrom_snoc 0 bs b
  simpa [places] using h
theorem erase_filter {x : Int} : ∀ {k : List Int}, k.Nodup → k.erase x = k.filter fun y => decide (y ≠ x)
  | [], _ => rfl
  | y :: r, nd => by
    obtain ⟨h1, h2⟩ := List.nodup_cons.mp nd
    by_cases e : y = x
    · subst e
      rw [List.erase_cons_head, List.filter_cons_of_neg (by simp)]
      refine (List.filter_eq_self.mpr fun z hz => ?_).symm
      simp
      intro e
      subst e
      exact h1 hz
    · rw [List.erase_cons_tail (by simpa using e), List.filter_cons_of_pos (by simpa using e), erase_filter h2]
section
variable {σ : L2.St} {K : PySem.W.Frag} {H : Hp} {Q : VK}
theorem w_inI {p : Addr} {ns : List Int} {x : Int} (h : SqL K H p (ns.map V.int)) (q : Q (.bl (decide (x ∈ ns))) H) : rIn K false (.int x) (.ref p) H Q := w_inL h rfl (flat_int ns) (in_int x ns) q
theorem w_niI {p : Addr} {ns : List Int} {x : Int} (h : SqL K H p (ns.map V.int)) (q : Q (.bl (decide (x ∉ ns))) H) : rIn K true (.int x) (.ref p) H Q := w_niL h rfl (flat_int ns) (by rw [in_int]; simp) q
theorem w_remI {l : Addr} {ns : List Int} {x : Int} (h : H l = some (.lst (ns.map V.int))) (hm : x ∈ ns) (q : Q .non (upd H l (.lst ((ns.erase x).map V.int)))) : rRemI (.ref l) [.int x] H Q := by
  have hj := List.idxOf_lt_length_iff.mpr hm
  refine ⟨l, ns, x, ns.idxOf x, rfl, rfl, h, by rw [List.getElem?_eq_getElem hj]; simp, fun m hm' e => ?_, ?_⟩
  · have z := List.not_of_lt_findIdx (p := (· == x)) (xs := ns) (i := m) hm'
    rw [List.getElem?_eq_getElem (by omega)] at e
    rw [Option.some.inj e] at z
    simp at z
  · rw [← List.erase_eq_eraseIdx_of_idxOf rfl]; exact q
theorem w_sl {r : V → Option Int → Option Int → Hp → VK → Prop} {te : TE} {tl th : TO} (h : te σ H fun x H1 => tl σ H1 fun l H2 => th σ H2 fun u H3 => r x l u H3 Q) : tSl r te tl th σ H Q := h
theorem w_part {t : TE} {QO : Option Int → Hp → Prop} (h : t σ H fun x H1 => ∃ i, x = .int i ∧ QO (some i) H1) : tPart t σ H QO := h
theorem w_nopart {QO : Option Int → Hp → Prop} (h : QO none H) : tNoPart σ H QO := h
theorem w_isInt {i : Int} {P : Int → Prop} (h : P i) : ∃ k, V.int i = .int k ∧ P k := ⟨i, rfl, h⟩
theorem w_slL {a : Addr} {xs : List V} {lo hi : Option Int} (h : SqL K H a xs) (q : ∀ p, H p = none → Q (.ref p) (upd H p (.lst (cutV xs lo hi)))) : rSlL K (.ref a) lo hi H Q := ⟨a, xs, rfl, h, q⟩
end
theorem cut_from (xs : List V) (k : Nat) : cutV xs (some (k : Int)) none = xs.drop k := by
  unfold cutV
  rw [HT.sIx_nat, HT.sIx_none]
  rcases Nat.le_total k xs.length with h | h
  · rw [Nat.min_eq_left h]
    exact List.take_of_length_le (by rw [List.length_drop]; omega)
  · rw [Nat.min_eq_right h, List.drop_of_length_le h]
    simp
theorem cut_last (xs : List V) {n : Int} (h : 0 < n) : cutV xs (some (-n)) none = xs.drop (xs.length - n.toNat) := by
  unfold cutV
  have e : HT.sIx xs.length 0 (some (-n)) = xs.length - n.toNat := by
    show (if -n < 0 then (-n + (xs.length : Int)).toNat else _) = _
    rw [if_pos (by omega)]
    omega
  rw [e, HT.sIx_none]
  exact List.take_of_length_le (by rw [List.length_drop]; omega)
theorem cut_mid (xs : List V) (i j : Nat) : cutV xs (some (i : Int)) (some (j : Int)) = (xs.take j).drop i := by
  unfold cutV
  rw [HT.sIx_nat, HT.sIx_nat, List.drop_take]
  rcases Nat.le_total i xs.length with h | h
  · rw [Nat.min_eq_left h]
    rcases Nat.le_total j xs.length with h2 | h2
    · rw [Nat.min_eq_left h2]
    · rw [Nat.min_eq_right h2, List.take_of_length_le (by rw [List.length_drop]; omega), List.take_of_length_le (by rw [List.length_drop]; omega)]
  · rw [Nat.min_eq_right h, List.drop_of_length_le (Nat.le_refl _), List.drop_of_length_le h]
    simp
end Cw
namespace Cw
open PySem L2
/-! the law's own dial: a dict by texts -/
theorem str_pm : ¬ (("pages" : Str) = "marks") := by decide +kernel
theorem str_ph : ¬ (("pages" : Str) = "hand") := by decide +kernel
theorem str_pl : ¬ (("pages" : Str) = "lacks") := by decide +kernel
theorem str_mh : ¬ (("marks" : Str) = "hand") := by decide +kernel
theorem str_ml : ¬ (("marks" : Str) = "lacks") := by decide +kernel
theorem key_ne {a b : Str} (h : ¬ a = b) : ¬ ((Sum.inr a : Key) = Sum.inr b) := fun e => h (Sum.inr.inj e)
theorem key_ne' {a b : Str} (h : ¬ a = b) : ¬ ((Sum.inr b : Key) = Sum.inr a) := fun e => h (Sum.inr.inj e).symm
def ddl (a b : Addr) (h l : Int) : List (Key × V) := [(.inr "pages", .ref a), (.inr "marks", .ref b), (.inr "hand", .int h), (.inr "lacks", .int l)]
theorem ddl_made (a b : Addr) (h l : Int) : mergeK [] (ddl a b h l) = ddl a b h l := by
  show putK (putK (putK (putK [] (Sum.inr "pages" : Key) (V.ref a)) (Sum.inr "marks") (V.ref b)) (Sum.inr "hand") (V.int h)) (Sum.inr "lacks") (V.int l) = _
  rw [putK_new (kvs := []) (V.ref a) rfl]
  rw [putK_new (V.ref b) (by rw [List.nil_append, valV_neg (key_ne str_pm)]; rfl)]
  rw [putK_new (V.int h) (by simp only [List.nil_append, List.cons_append]; rw [valV_neg (key_ne str_ph), valV_neg (key_ne str_mh)]; rfl)]
  rw [putK_new (V.int l) (by simp only [List.nil_append, List.cons_append]; rw [valV_neg (key_ne str_pl), valV_neg (key_ne str_ml), valV_neg (key_ne str_al)]; rfl)]
  rfl
theorem ddl_pages (a b : Addr) (h l : Int) : valV (ddl a b h l) (.inr "pages") = some (.ref a) := valV_pos rfl
theorem ddl_marks (a b : Addr) (h l : Int) : valV (ddl a b h l) (.inr "marks") = some (.ref b) := by unfold ddl; rw [valV_neg (key_ne str_pm)]; exact valV_pos rfl
theorem ddl_hand (a b : Addr) (h l : Int) : valV (ddl a b h l) (.inr "hand") = some (.int h) := by unfold ddl; rw [valV_neg (key_ne str_ph), valV_neg (key_ne str_mh)]; exact valV_pos rfl
theorem ddl_lacks (a b : Addr) (h l : Int) : valV (ddl a b h l) (.inr "lacks") = some (.int l) := by unfold ddl; rw [valV_neg (key_ne str_pl), valV_neg (key_ne str_ml), valV_neg (key_ne str_al)]; exact valV_pos rfl
theorem ddl_putH (a b : Addr) (h l y : Int) : putK (ddl a b h l) (.inr "hand") (.int y) = ddl a b y l := by
  unfold putK
  rw [valV_any, ddl_hand, if_pos (show (some (V.int h)).isSome = true from rfl)]
  simp only [ddl, List.map_cons, List.map_nil, if_neg (key_ne str_ph), if_neg (key_ne str_mh), if_neg (key_ne' str_al), if_true]
theorem ddl_putL (a b : Addr) (h l y : Int) : putK (ddl a b h l) (.inr "lacks") (.int y) = ddl a b h y := by
  unfold putK
  rw [valV_any, ddl_lacks, if_pos (show (some (V.int l)).isSome = true from rfl)]
  simp only [ddl, List.map_cons, List.map_nil, if_neg (key_ne str_pl), if_neg (key_ne str_ml), if_neg (key_ne str_al), if_true]
theorem ddl_len (a b : Addr) (h l : Int) : (ddl a b h l).length < sizeLine := sz_lt (by show 4 < 100000; decide)
def LDial (H : Hp) (p a b : Addr) (d : Dl) : Prop := H p = some (.dK (ddl a b d.hand d.lacks)) ∧ H a = some (.lst (d.here.map oV)) ∧ H b = some (.lst (d.seen.map V.bl))
theorem LDial.keep {p a b : Addr} {H H' : Hp} {d : Dl} {W : List Addr} (h : LDial H p a b d) (f : Fr W H H') (hp : p ∉ W) (ha : a ∉ W) (hb : b ∉ W) : LDial H' p a b d := ⟨f.get h.1 hp, f.get h.2.1 ha, f.get h.2.2 hb⟩
section
variable {H : Hp} {σ : L2.St} {Q : VK}
theorem w_dget {td ty : TE} (h : td σ H fun x H1 => ty σ H1 fun y H2 => ∃ a v, x = .ref a ∧ DGet H2 a y (some v) ∧ Q v H2) : tDGet td ty σ H Q := h
theorem w_dgetS {d : Addr} {kvs : List (Key × V)} {z : Str} {v : V} {P : V → Prop} (h : H d = some (.dK kvs)) (hv : valV kvs (.inr z) = some v) (q : P v) : ∃ a v, V.ref d = .ref a ∧ DGet H a (.str z) (some v) ∧ P v :=
  ⟨d, v, rfl, by rw [← hv]; exact DGet.k (k := Sum.inr z) h, q⟩
theorem w_dput {td ty tv : TE} {nx : L2.St → Hp → Prop} {rt : VK} {bk ct : L2.St → Hp → Prop} (h : tv σ H fun v H1 => td σ H1 fun x H2 => ty σ H2 fun y H3 => ∃ a H4, x = .ref a ∧ DPut H3 a y v H4 ∧ nx σ H4) : sDPut td ty tv ⟨nx, rt, bk, ct⟩ σ H := h
theorem w_dputS {d : Addr} {kvs ks : List (Key × V)} {z : Str} {v : V} {N : Hp → Prop} (h : H d = some (.dK kvs)) (hl : kvs.length < sizeLine) (e : putK kvs (.inr z) v = ks) (q : N (upd H d (.dK ks))) : ∃ a H4, V.ref d = .ref a ∧ DPut H a (.str z) v H4 ∧ N H4 :=
  ⟨d, _, rfl, DPut.k (k := Sum.inr z) h hl, by rw [e]; exact q⟩
theorem w_rep {l : Addr} {k : Int} {xs : List V} (h : H l = some (.lst xs)) (h1 : 0 ≤ k) (h2 : k < 1000) (hz : xs.length ≤ 100) (q : ∀ p, H p = none → Q (.ref p) (upd H p (.lst (List.replicate k.toNat xs).flatten))) : rRep (.ref l) (.int k) H Q :=
  ⟨l, k, xs, rfl, rfl, h, by omega, by omega, sz_le (Nat.le_trans (Nat.mul_le_mul hz (show k.toNat ≤ 1000 by omega)) (by decide)), q⟩
theorem w_disp {trs : List (TE × TE)} (h : ∀ p, H p = none → tPairs trs σ (upd H p (.dK [])) fun ps H2 => H2 p = some (.dK []) ∧ ∃ kvs : List (Key × V), ps = kvs.map (fun kv => (kV kv.1, kv.2)) ∧ kvs.length ≤ 15 ∧ Q (.ref p) (upd H2 p (.dK (mergeK [] kvs)))) : tDisp trs σ H Q := h
theorem w_pairs {tk tv : TE} {r : List (TE × TE)} {QP : List (V × V) → Hp → Prop} (h : tk σ H fun x H1 => tv σ H1 fun y H2 => tPairs r σ H2 fun ps H3 => QP ((x, y) :: ps) H3) : tPairs ((tk, tv) :: r) σ H QP := h
theorem w_pairs0 {QP : List (V × V) → Hp → Prop} (h : QP [] H) : tPairs [] σ H QP := h
end
end Cw
namespace Cw
open PySem L2
def lkD (rooms : Nat) (z : Str) (ns : List Int) : Dl := if z = Str.ofString "hand" then endAll (Dl.new rooms) ns else Dl.new rooms
def lkK (rooms : Nat) (z : Str) (ns : List Int) : List Int := if z = Str.ofString "hand" then [] else keepEnd rooms (decide (z = Str.ofString "unseen")) [] ns
def lkB (rooms : Nat) (z : Str) (ns : List Int) (x : Int) : Bool := if z = Str.ofString "hand" then ((lkD rooms z ns).ask x).2.lack else decide (x ∉ lkK rooms z ns)
theorem lackB_snoc (rooms : Nat) (z : Str) (ns : List Int) (x : Int) : lackB rooms z (ns ++ [x]) = lackB rooms z ns ++ [lkB rooms z ns x] := by
  unfold lackB lkB lkD lkK
  by_cases h : z = Str.ofString "hand"
  · simp only [if_pos h, askAll_app, List.map_append]; rfl
  · simp only [if_neg h, keepAll_app]; rfl
theorem lkD_snoc (rooms : Nat) (z : Str) (ns : List Int) (x : Int) : lkD rooms z (ns ++ [x]) = if z = Str.ofString "hand" then ((lkD rooms z ns).ask x).1 else lkD rooms z ns := by
  unfold lkD
  by_cases h : z = Str.ofString "hand"
  · simp only [if_pos h, endAll_app]; rfl
  · simp only [if_neg h]
theorem lkK_snoc (rooms : Nat) (z : Str) (ns : List Int) (x : Int) : lkK rooms z (ns ++ [x]) = if z = Str.ofString "hand" then lkK rooms z ns else keepS rooms (decide (z = Str.ofString "unseen")) (lkK rooms z ns) x := by
  unfold lkK
  by_cases h : z = Str.ofString "hand"
  · simp only [if_pos h]
  · simp only [if_neg h, keepEnd_app]; rfl
theorem lkD_wf {rooms : Nat} (n0 : 0 < rooms) (n8 : rooms ≤ 8) (z : Str) (ns : List Int) : (lkD rooms z ns).Wf rooms := by
  unfold lkD
  split
  · exact endAll_wf _ _ (.new n0 n8)
  · exact .new n0 n8
theorem lkK_ok {rooms : Nat} (n0 : 0 < rooms) (z : Str) (ns : List Int) : KOk rooms (lkK rooms z ns) := by
  unfold lkK
  split
  · exact ⟨List.nodup_nil, Nat.zero_le _⟩
  · exact keepEnd_ok n0 _ _ _ ⟨List.nodup_nil, Nat.zero_le _⟩
end Cw
namespace Cw
open PySem L2
theorem placesFrom_len : ∀ (i : Nat) (bs : List Bool), (placesFrom i bs).length ≤ bs.length
  | _, [] => Nat.le_refl _
  | i, b :: r => by
    have h := placesFrom_len (i + 1) r
    cases b <;> simp [placesFrom] <;> omega
theorem places_len (bs : List Bool) : (places bs).length ≤ bs.length := placesFrom_len 0 bs
theorem w_rep1 {H : Hp} {Q : VK} {l : Addr} {k : Int} {v : V} (h : H l = some (.lst [v])) (h1 : 0 ≤ k) (h2 : k < 1000) (q : ∀ p, H p = none → Q (.ref p) (upd H p (.lst (List.replicate k.toNat v)))) : rRep (.ref l) (.int k) H Q := by
  refine w_rep h h1 h2 (by show 1 ≤ 100; decide) fun p hp => ?_
  have e : ∀ k : Nat, (List.replicate k [v]).flatten = List.replicate k v := fun k => by
    induction k with
    | zero => rfl
    | succ k ih => rw [List.replicate_succ, List.flatten_cons, ih]; rfl
  rw [e]
  exact q p hp
end Cw

namespace Cw
open PySem L2
/-! the unlike ones of a list, in their first order -/
def add1 (acc : List Int) (x : Int) : List Int := if x ∈ acc then acc else acc ++ [x]
def firsts (ns : List Int) : List Int := ns.foldl add1 []
theorem firsts_snoc (ns : List Int) (x : Int) : firsts (ns ++ [x]) = add1 (firsts ns) x := by unfold firsts; rw [List.foldl_append]; rfl
theorem firsts_facts : ∀ (ns : List Int), (firsts ns).Nodup ∧ ∀ x, x ∈ firsts ns ↔ x ∈ ns := by
  intro ns
  have h : ∀ (ns acc : List Int), acc.Nodup → (ns.foldl add1 acc).Nodup ∧ ∀ x, x ∈ ns.foldl add1 acc ↔ x ∈ acc ∨ x ∈ ns := by
    intro ns
    induction ns with
    | nil => intro acc nd; exact ⟨nd, fun x => by simp⟩
    | cons y r ih =>
      intro acc nd
      have e : (y :: r).foldl add1 acc = r.foldl add1 (add1 acc y) := rfl
      rw [e]
      by_cases hy : y ∈ acc
      · have ea : add1 acc y = acc := if_pos hy
        rw [ea]
        refine ⟨(ih acc nd).1, fun x => ?_⟩
        rw [(ih acc nd).2 x, List.mem_cons]
        constructor
        · rintro (h | h)
          · exact .inl h
          · exact .inr (.inr h)
        · rintro (h | h | h)
          · exact .inl h
          · subst h; exact .inl hy
          · exact .inr h
      · have ea : add1 acc y = acc ++ [y] := if_neg hy
        rw [ea]
        have nd2 : (acc ++ [y]).Nodup := by
          rw [List.nodup_append]
          refine ⟨nd, by simp, fun a ha b hb => ?_⟩
          simp at hb
          subst hb
          intro e
          subst e
          exact hy ha
        refine ⟨(ih _ nd2).1, fun x => ?_⟩
        rw [(ih _ nd2).2 x]
        simp only [List.mem_append, List.mem_cons, List.not_mem_nil, or_false, or_assoc]
  have := h ns [] List.nodup_nil
  exact ⟨this.1, fun x => by rw [show firsts ns = ns.foldl add1 [] from rfl, this.2 x]; simp⟩
theorem firsts_len_le (ns : List Int) : (firsts ns).length ≤ ns.length := by
  have h : ∀ (ns acc : List Int), (ns.foldl add1 acc).length ≤ acc.length + ns.length := by
    intro ns
    induction ns with
    | nil => intro acc; simp
    | cons y r ih =>
      intro acc
      have e : (y :: r).foldl add1 acc = r.foldl add1 (add1 acc y) := rfl
      rw [e]
      have := ih (add1 acc y)
      have h2 : (add1 acc y).length ≤ acc.length + 1 := by unfold add1; split <;> simp
      simp
      omega
  have z := h ns []
  simp at z
  exact z
theorem firstMet_firsts (ns : List Int) : PyProof.Rows.firstMet (fun i => ns.getD i 0) ns.length = firsts ns := by
  have hs : PyProof.Rows.step_dedup = add1 := by
    funext acc x
    unfold PyProof.Rows.step_dedup add1
    have e : (acc.any (· == x)) = decide (x ∈ acc) := by
      induction acc with
      | nil => rfl
      | cons y r ih =>
        rw [List.any_cons, ih]
        by_cases h : y = x
        · subst h; simp
        · simp [h, Ne.symm h]
    rw [e]
    by_cases h : x ∈ acc <;> simp [h]
  have e : (List.range ns.length).map (fun i => ns.getD i 0) = ns := by
    apply List.ext_getElem
    · simp
    · intro i h1 h2
      simp only [List.getElem_map, List.getElem_range]
      rw [List.getD_eq_getElem?_getD, List.getElem?_eq_getElem h2]
      rfl
  unfold PyProof.Rows.firstMet firsts
  rw [e, hs]
section
open PySem.Spec PyProof.Rows
def tLenSetD (K : PySem.W.Frag) (ta : TE) : TE := fun σ H Q => ta σ H fun x H1 => ∃ (l : Addr) (ns : List Int), x = .ref l ∧ SqL K H1 l (ns.map V.int) ∧ ns.length ≤ 4000 ∧ Q (.int (firsts ns).length) H1
theorem pe_lenSetD {X : Cx} {K : PySem.W.Frag} (hK : X.K = K) {a : Expr} {ta : TE} {p p2 q pos : Pos} (hg : Gl X "len") (hm : X.mg "len" = none) (hg2 : Gl X "set") (hm2 : X.mg "set" = none) (ha : PE X a ta) (hc : X.calm = true := by rfl)
    (na : starEach [a] X.env = (false, eval a X.env) :: starEach [] X.env := by rfl) : PE X (.Call (.Name "len" p) [.Call (.Name "set" p2) [a] [] q] [] pos) (tLenSetD K ta) := by
  subst hK
  refine ⟨fun pins s σ H Q I h => ?_⟩
  refine Call_ (ld_blt I hg hm boot_len ?_)
  refine PyProof.Rows.callWith_builtin1 (PyProof.Rows.args_cons ?_ rfl) rfl rfl
  refine Call_ (ld_blt I hg2 hm2 (show bootBuiltins ("set" : Str) = some (.type "set") by decide +kernel) ?_)
  refine PyProof.Rows.callWith_type1 (PyProof.Rows.args_cons (thn (ha.run pins s σ H _ I h) fun v s1 ⟨x, H1, I1, r1, q1⟩ => PyProof.Rows.args_nil ?_) na) na rfl
  obtain ⟨l, ns, rfl, hq, hl, q1⟩ := q1
  cases r1
  obtain ⟨its, r, pl, hz⟩ := I1.list hq
  have hlen : its.toArray.size = ns.length := by rw [List.size_toArray, ← r.length, List.length_map]
  refine PySem.call_set_list (I1.ok.hd hc) pl.isList (by simpa using RZ.intsAre_vals r) (by rw [hlen]; unfold PySem.scanBound; omega) fun h' tk hS hk => ?_
  refine PyProof.Rows.args_nil ?_
  rw [hlen, firstMet_firsts] at hS
  have hfl := firsts_len_le ns
  obtain ⟨o, es, ep, t, ho, hex, hd, _, _, _, hf, hn⟩ := hS
  have I2 : Inv X pins σ H1 { s1 with heap := h', toks := tk } := I1.kept fun b o e => hk b o (Heap.lt_size e) e
  exact PySem.call_len_set ho hex hd hf (by rw [hn] <;> omega) ⟨.int (firsts ns).length, H1, I2.tok _, ⟨_, by rw [hn]⟩, q1⟩
end
end Cw
namespace Cw
open PySem L2
/-! stretches -/
structure Cs where
  out : List (Int × Int)
  b : Nat
  seg : List Int
  n : Nat
def cstep (rooms : Nat) (s : Cs) (x : Int) : Cs :=
  if x ∉ firsts s.seg ∧ (firsts s.seg).length = rooms then ⟨s.out ++ [((s.b : Int), (s.n : Int))], s.n, [x], s.n + 1⟩ else ⟨s.out, s.b, s.seg ++ [x], s.n + 1⟩
def cst (rooms : Nat) (ns : List Int) : Cs := ns.foldl (cstep rooms) ⟨[], 0, [], 0⟩
theorem cst_snoc (rooms : Nat) (ns : List Int) (x : Int) : cst rooms (ns ++ [x]) = cstep rooms (cst rooms ns) x := by unfold cst; rw [List.foldl_append]; rfl
def parts (rooms : Nat) (ns : List Int) : List (Int × Int) := if ns = [] then [] else (cst rooms ns).out ++ [(((cst rooms ns).b : Int), (ns.length : Int))]
structure Cs.Ok (s : Cs) (rooms : Nat) (ns : List Int) : Prop where
  n : s.n = ns.length
  bn : s.b ≤ s.n
  seg : s.seg = ns.drop s.b
  le : (firsts s.seg).length ≤ rooms
  ol : s.out.length ≤ s.b
  ob : ∀ e ∈ s.out, 0 ≤ e.1 ∧ e.1 < e.2 ∧ e.2 ≤ s.b
  lt : ns ≠ [] → s.b < s.n
theorem list_snoc_ind {α : Type} {P : List α → Prop} (h0 : P []) (hs : ∀ l x, P l → P (l ++ [x])) : ∀ l, P l := by
  intro l
  have h : ∀ n, ∀ l : List α, l.length = n → P l := by
    intro n
    induction n with
    | zero => intro l hl; rw [List.eq_nil_of_length_eq_zero hl]; exact h0
    | succ n ih =>
      intro l hl
      have hne : l ≠ [] := by intro e; rw [e] at hl; cases hl
      rw [← List.dropLast_concat_getLast hne]
      exact hs _ _ (ih _ (by rw [List.length_dropLast]; omega))
  exact h _ l rfl
theorem cst_ok {rooms : Nat} (n0 : 0 < rooms) : ∀ ns : List Int, (cst rooms ns).Ok rooms ns := by
  refine list_snoc_ind ?_ ?_
  · exact ⟨rfl, Nat.le_refl _, rfl, Nat.zero_le _, Nat.le_refl _, fun e h => by simp [cst] at h, fun h => absurd rfl h⟩
  · intro ns x ⟨hn, hb, hs, hl, ho, hob, hlt⟩
    rw [cst_snoc]
    generalize cst rooms ns = s at *
    unfold cstep
    split
    · rename_i h
      have hne : ns ≠ [] := by
        intro e
        subst e
        rw [hs] at h
        have h2 := h.2
        simp [firsts] at h2
        omega
      have := hlt hne
      refine ⟨by simp [hn], by simp, by simp [hn], ?_, ?_, ?_, fun _ => Nat.lt_succ_self _⟩
      · show (firsts [x]).length ≤ rooms
        simp [firsts, add1]
        omega
      · simp
        omega
      · intro e he
        rcases List.mem_append.mp he with he | he
        · have := hob e he
          exact ⟨this.1, this.2.1, by show e.2 ≤ (s.n : Int); omega⟩
        · simp at he
          subst he
          exact ⟨by simp, by simp; omega, by simp⟩
    · rename_i h
      refine ⟨by simp [hn], by show s.b ≤ s.n + 1; omega, ?_, ?_, ho, hob, fun _ => by show s.b < s.n + 1; omega⟩
      · show s.seg ++ [x] = (ns ++ [x]).drop s.b
        rw [List.drop_append_of_le_length (by omega), hs]
      · show (firsts (s.seg ++ [x])).length ≤ rooms
        rw [firsts_snoc]
        unfold add1
        split
        · exact hl
        · rename_i h2
          have : (firsts s.seg).length ≠ rooms := fun e => h ⟨h2, e⟩
          rw [List.length_append]
          simp
          omega
def pairD (e : Int × Int) : PyData := .tuple [.int e.1, .int e.2]
/-- new tuples of two whole numbers -/
theorem nw_pair {K : PySem.W.Frag} {H H' : Hp} {t : Addr} {i j : Int} (ht : H t = none) (h : H' t = some (.tup [.int i, .int j])) : Nw K H H' (.ref t) (pairD (i, j)) := Nw.tup ht h (.cons (Nw.int _) (.cons (Nw.int _) .nil))
end Cw
namespace Cw
open PySem L2
theorem w_lenSetD {K : PySem.W.Frag} {H : Hp} {σ : L2.St} {Q : VK} {ta : TE} (h : ta σ H fun x H1 => ∃ (l : Addr) (ns : List Int), x = .ref l ∧ SqL K H1 l (ns.map V.int) ∧ ns.length ≤ 4000 ∧ Q (.int (firsts ns).length) H1) : tLenSetD K ta σ H Q := h
theorem cut_ints (ns : List Int) (i j : Nat) : cutV (ns.map V.int) (some (i : Int)) (some (j : Int)) = ((ns.take j).drop i).map V.int := by rw [cut_mid, ← List.map_take, ← List.map_drop]
theorem over_rooms {rooms : Nat} {seg : List Int} {x : Int} (h : (firsts seg).length ≤ rooms) : (rooms : Int) < ((firsts (seg ++ [x])).length : Int) ↔ (x ∉ firsts seg ∧ (firsts seg).length = rooms) := by
  rw [firsts_snoc]
  unfold add1
  by_cases hx : x ∈ firsts seg
  · rw [if_pos hx]
    constructor
    · intro z; omega
    · intro z; exact absurd hx z.1
  · rw [if_neg hx, List.length_append]
    simp [hx]
    omega
end Cw
namespace Cw
open PySem L2
theorem places_mem : ∀ bs : List Bool, ∀ p ∈ places bs, 0 ≤ p ∧ p < (bs.length : Int) := by
  refine list_snoc_ind (by intro p h; simp [places, placesFrom] at h) ?_
  intro l b ih p hp
  rw [places_snoc] at hp
  rcases List.mem_append.mp hp with h | h
  · have := ih p h
    rw [List.length_append]
    simp
    omega
  · cases b with
    | false => simp at h
    | true => simp at h; subst h; simp; omega
/-- places ahead of e -/
theorem places_take (e : Nat) : ∀ bs : List Bool, (places bs).filter (fun p => decide (p < (e : Int))) = places (bs.take e) := by
  refine list_snoc_ind (by simp [places, placesFrom]) ?_
  intro l b ih
  rw [places_snoc, List.filter_append, ih]
  by_cases h : e ≤ l.length
  · rw [List.take_append_of_le_length h]
    have : (if b = true then [((l.length : Nat) : Int)] else []).filter (fun p => decide (p < (e : Int))) = [] := by
      cases b <;> simp; omega
    rw [this, List.append_nil]
  · have h1 : (l ++ [b]).take e = l ++ [b] := List.take_of_length_le (by simp; omega)
    have h2 : l.take e = l := List.take_of_length_le (by omega)
    rw [h1, h2, places_snoc]
    congr 1
    cases b <;> simp; omega
/-- the places from b on, ahead of e -/
def cntL (bs : List Bool) (b e : Nat) : List Int := (places (bs.take e)).filter fun p => decide ((b : Int) ≤ p)
theorem cntL_start (bs : List Bool) (b : Nat) : cntL bs b b = [] := by
  unfold cntL
  rw [List.filter_eq_nil_iff]
  intro p hp
  have := places_mem _ p hp
  rw [List.length_take] at this
  simp
  omega
theorem cntL_succ {bs : List Bool} {b e : Nat} {v : Bool} (hb : b ≤ e) (h : bs[e]? = some v) : cntL bs b (e + 1) = cntL bs b e ++ (if v then [(e : Int)] else []) := by
  have hl := (List.getElem?_eq_some_iff.mp h).1
  unfold cntL
  rw [take_snoc h, places_snoc, List.filter_append, List.length_take, Nat.min_eq_left (by omega)]
  congr 1
  cases v <;> simp; omega
theorem cntL_law (bs : List Bool) (b e : Nat) : (places bs).filter (fun p => decide ((b : Int) ≤ p ∧ p < (e : Int))) = cntL bs b e := by
  unfold cntL
  rw [← places_take, List.filter_filter]
  congr 1
  funext p
  simp
theorem cntL_len (bs : List Bool) (b e : Nat) : (cntL bs b e).length ≤ bs.length := by
  unfold cntL
  refine Nat.le_trans (List.length_filter_le _ _) (Nat.le_trans (places_len _) ?_)
  rw [List.length_take]
  omega
theorem parts_mem {rooms : Nat} (n0 : 0 < rooms) (ns : List Int) : ∀ e ∈ parts rooms ns, 0 ≤ e.1 ∧ e.1 < e.2 ∧ e.2 ≤ (ns.length : Int) := by
  intro e he
  have o := cst_ok n0 ns
  unfold parts at he
  split at he
  · simp at he
  · rename_i hne
    rcases List.mem_append.mp he with h | h
    · have := o.ob e h
      have := o.bn
      have := o.n
      omega
    · simp at h
      subst h
      have := o.lt hne
      have := o.n
      simp
      omega
theorem parts_len {rooms : Nat} (n0 : 0 < rooms) (ns : List Int) : (parts rooms ns).length ≤ ns.length := by
  have o := cst_ok n0 ns
  unfold parts
  split
  · simp
  · rename_i hne
    have h1 := o.lt hne
    have h2 := o.ol
    have h3 := o.n
    rw [List.length_append]
    simp
    omega
def counts (bs : List Bool) (ps : List (Int × Int)) : List Int := ps.map fun e => ((cntL bs e.1.toNat e.2.toNat).length : Int)
theorem dp_pair {K : PySem.W.Frag} {H : Hp} {v : V} {e : Int × Int} (h : Dp K H v (pairD e)) : ∃ t, v = .ref t ∧ SqT K H t [.int e.1, .int e.2] := by
  unfold pairD at h
  cases h with
  | @tup t xs _ hs ha =>
    cases ha with
    | @cons v1 vr _ _ h1 h2 =>
    cases h1
    cases h2 with
    | @cons v2 vr2 _ _ h3 h4 =>
    cases h3
    cases h4
    exact ⟨t, rfl, hs⟩
end Cw
namespace Cw
open PySem L2
/-- xs are refs to tuples of two whole numbers, all new beside H; a list that changes is none of them -/
def PairsAt (H H' : Hp) (xs : List V) (ps : List (Int × Int)) : Prop := xs.length = ps.length ∧ ∀ (i : Nat) (e : Int × Int), ps[i]? = some e → ∃ t, xs[i]? = some (.ref t) ∧ H t = none ∧ H' t = some (.tup [.int e.1, .int e.2])
theorem PairsAt.nil {H H' : Hp} : PairsAt H H' [] [] := ⟨rfl, fun i e h => by simp at h⟩
theorem PairsAt.fr {H H' H2 : Hp} {xs : List V} {ps : List (Int × Int)} {W : List Addr} (h : PairsAt H H' xs ps) (f : Fr W H' H2) (hw : ∀ w ∈ W, ∃ l, H' w = some (.lst l)) : PairsAt H H2 xs ps := ⟨h.1, fun i e he => by
  obtain ⟨t, h1, h2, h3⟩ := h.2 i e he
  refine ⟨t, h1, h2, f.get h3 fun m => ?_⟩
  obtain ⟨l, hl⟩ := hw t m
  rw [h3] at hl
  cases hl⟩
theorem PairsAt.snoc {H H' : Hp} {xs : List V} {ps : List (Int × Int)} {t : Addr} {a b : Int} (h : PairsAt H H' xs ps) (ht : H t = none) (h2 : H' t = some (.tup [.int a, .int b])) : PairsAt H H' (xs ++ [.ref t]) (ps ++ [(a, b)]) := ⟨by simp [h.1], fun i e he => by
  rcases Nat.lt_or_ge i ps.length with l | l
  · rw [List.getElem?_append_left l] at he
    obtain ⟨u, h1, h3⟩ := h.2 i e he
    exact ⟨u, by rw [List.getElem?_append_left (by rw [h.1]; exact l)]; exact h1, h3⟩
  · rw [List.getElem?_append_right l] at he
    have hi : i - ps.length = 0 := by
      have := (List.getElem?_eq_some_iff.mp he).1
      simp at this
      omega
    rw [hi] at he
    have he' : (a, b) = e := Option.some.inj he
    subst he'
    exact ⟨t, by rw [List.getElem?_append_right (by rw [h.1]; exact l), h.1, hi]; rfl, ht, h2⟩⟩
theorem PairsAt.nwa {K : PySem.W.Frag} {H H' : Hp} : ∀ {xs : List V} {ps : List (Int × Int)}, PairsAt H H' xs ps → NwA K H H' xs (ps.map pairD)
  | [], [], _ => .nil
  | [], _ :: _, h => by have := h.1; simp at this
  | _ :: _, [], h => by have := h.1; simp at this
  | x :: xs, e :: ps, h => by
    obtain ⟨t, h1, h2, h3⟩ := h.2 0 e rfl
    have hx : x = .ref t := Option.some.inj h1
    subst hx
    exact .cons (nw_pair h2 h3) (PairsAt.nwa ⟨by have := h.1; simpa using this, fun i e' he => h.2 (i + 1) e' he⟩)
end Cw
namespace Cw
open PySem L2
theorem Box.nin {H : Hp} {b q p : Addr} (h : Box H b q) (hp : H p = none) : p ∉ [b, q] := by
  obtain ⟨z, ms, h1, h2, _⟩ := h
  intro m
  rcases List.mem_cons.mp m with m | m
  · subst m; rw [hp] at h1; cases h1
  · rw [List.mem_singleton.mp m] at hp; rw [hp] at h2; cases h2
end Cw
namespace Cw
open PySem L2
theorem fits_ints {k : Nat} {ns : List Int} (h : ns.length ≤ 100000) : fits (k + 1) (.list (ns.map PyData.int)) := by
  refine ⟨by rw [List.length_map]; exact h, fun x hx => ?_⟩
  obtain ⟨n, _, rfl⟩ := List.mem_map.mp hx
  cases k <;> trivial
theorem fits_pairs {k : Nat} {ps : List (Int × Int)} (h : ps.length ≤ 100000) : fits (k + 2) (.list (ps.map pairD)) := by
  refine ⟨by rw [List.length_map]; exact h, fun x hx => ?_⟩
  obtain ⟨e, _, rfl⟩ := List.mem_map.mp hx
  refine ⟨by show 2 ≤ 100000; omega, fun y hy => ?_⟩
  rcases List.mem_cons.mp hy with h | h
  · subst h; cases k <;> trivial
  · rw [List.mem_singleton.mp h]; cases k <;> trivial
theorem fits_two {k : Nat} {a b : PyData} (ha : fits k a) (hb : fits k b) : fits (k + 1) (.list [a, b]) := by
  refine ⟨by show 2 ≤ 100000; omega, fun y hy => ?_⟩
  rcases List.mem_cons.mp hy with h | h
  · subst h; exact ha
  · rw [List.mem_singleton.mp h]; exact hb
end Cw

namespace Cw
open PySem L2
/-! the text by places -/
def top (i : Nat) : Stmt := PySem.Challenge.pw_clockhand_k09_stretches.main.body.getD i (.Pass ⟨0, 0, 0, 0⟩)
abbrev s_need_rooms : Stmt := top 9
abbrev N_need_rooms : List Str := ["rooms"]
theorem sc_need_rooms : FnScope N_need_rooms ["rooms"] (defScope s_need_rooms) := ⟨rfl, rfl, rfl, by decide +kernel, rfl, by decide +kernel, by decide +kernel⟩
abbrev s_is_page : Stmt := top 10
abbrev N_is_page : List Str := ["page"]
theorem sc_is_page : FnScope N_is_page ["page"] (defScope s_is_page) := ⟨rfl, rfl, rfl, by decide +kernel, rfl, by decide +kernel, by decide +kernel⟩
abbrev s_need_row : Stmt := top 11
abbrev N_need_row : List Str := ["row", "place", "page"]
theorem sc_need_row : FnScope N_need_row ["row"] (defScope s_need_row) := ⟨rfl, rfl, rfl, by decide +kernel, rfl, by decide +kernel, by decide +kernel⟩
abbrev s_need_both : Stmt := top 12
abbrev N_need_both : List Str := ["rooms", "row"]
theorem sc_need_both : FnScope N_need_both ["rooms", "row"] (defScope s_need_both) := ⟨rfl, rfl, rfl, by decide +kernel, rfl, by decide +kernel, by decide +kernel⟩
abbrev s_Dial_init : Stmt := inClass (top 14) 0
abbrev N_Dial_init : List Str := ["self", "rooms", "room"]
theorem sc_Dial_init : FnScope N_Dial_init ["self", "rooms"] (defScope s_Dial_init) := ⟨rfl, rfl, rfl, by decide +kernel, rfl, by decide +kernel, by decide +kernel⟩
abbrev s_Dial_ask : Stmt := inClass (top 14) 1
abbrev N_Dial_ask : List Str := ["self", "page", "passed", "gone"]
theorem sc_Dial_ask : FnScope N_Dial_ask ["self", "page"] (defScope s_Dial_ask) := ⟨rfl, rfl, rfl, by decide +kernel, rfl, by decide +kernel, by decide +kernel⟩
abbrev s_Dial_pages : Stmt := inClass (top 14) 2
abbrev N_Dial_pages : List Str := ["self"]
theorem sc_Dial_pages : FnScope N_Dial_pages ["self"] (defScope s_Dial_pages) := ⟨rfl, rfl, rfl, by decide +kernel, rfl, by decide +kernel, by decide +kernel⟩
abbrev s_Dial_looked : Stmt := inClass (top 14) 3
abbrev N_Dial_looked : List Str := ["self"]
theorem sc_Dial_looked : FnScope N_Dial_looked ["self"] (defScope s_Dial_looked) := ⟨rfl, rfl, rfl, by decide +kernel, rfl, by decide +kernel, by decide +kernel⟩
abbrev s_Dial_points : Stmt := inClass (top 14) 4
abbrev N_Dial_points : List Str := ["self"]
theorem sc_Dial_points : FnScope N_Dial_points ["self"] (defScope s_Dial_points) := ⟨rfl, rfl, rfl, by decide +kernel, rfl, by decide +kernel, by decide +kernel⟩
abbrev s_Dial_lacked : Stmt := inClass (top 14) 5
abbrev N_Dial_lacked : List Str := ["self"]
theorem sc_Dial_lacked : FnScope N_Dial_lacked ["self"] (defScope s_Dial_lacked) := ⟨rfl, rfl, rfl, by decide +kernel, rfl, by decide +kernel, by decide +kernel⟩
abbrev s_round_told : Stmt := top 15
abbrev N_round_told : List Str := ["rooms", "row", "dial", "page"]
theorem sc_round_told : FnScope N_round_told ["rooms", "row"] (defScope s_round_told) := ⟨rfl, rfl, rfl, by decide +kernel, rfl, by decide +kernel, by decide +kernel⟩
abbrev s_need_rule : Stmt := top 21
abbrev N_need_rule : List Str := ["rule"]
theorem sc_need_rule : FnScope N_need_rule ["rule"] (defScope s_need_rule) := ⟨rfl, rfl, rfl, by decide +kernel, rfl, by decide +kernel, by decide +kernel⟩
abbrev s_by_row : Stmt := top 22
abbrev N_by_row : List Str := ["rooms", "row", "rule", "kept", "found", "page"]
theorem sc_by_row : FnScope N_by_row ["rooms", "row", "rule"] (defScope s_by_row) := ⟨rfl, rfl, rfl, by decide +kernel, rfl, by decide +kernel, by decide +kernel⟩
abbrev s_all_lacking : Stmt := top 23
abbrev N_all_lacking : List Str := ["rooms", "row", "rule", "one"]
theorem sc_all_lacking : FnScope N_all_lacking ["rooms", "row", "rule"] (defScope s_all_lacking) := ⟨rfl, rfl, rfl, by decide +kernel, rfl, by decide +kernel, by decide +kernel⟩
abbrev s_all_stretches : Stmt := top 25
abbrev N_all_stretches : List Str := ["rooms", "row", "found", "begin", "place"]
theorem sc_all_stretches : FnScope N_all_stretches ["rooms", "row"] (defScope s_all_stretches) := ⟨rfl, rfl, rfl, by decide +kernel, rfl, by decide +kernel, by decide +kernel⟩
abbrev s_stretches : Stmt := top 26
abbrev N_stretches : List Str := ["rooms", "row"]
theorem sc_stretches : FnScope N_stretches ["rooms", "row"] (defScope s_stretches) := ⟨rfl, rfl, rfl, by decide +kernel, rfl, by decide +kernel, by decide +kernel⟩
abbrev s_lacking_in : Stmt := top 27
abbrev N_lacking_in : List Str := ["rooms", "row", "rule", "lacks", "begin", "end", "place"]
theorem sc_lacking_in : FnScope N_lacking_in ["rooms", "row", "rule"] (defScope s_lacking_in) := ⟨rfl, rfl, rfl, by decide +kernel, rfl, by decide +kernel, by decide +kernel⟩
abbrev s_l_begun : Stmt := top 29
abbrev N_l_begun : List Str := ["_law_script", "_law_stirred", "_law_cell"]
theorem sc_l_begun : FnScope N_l_begun ["_law_script"] (defScope s_l_begun) := ⟨rfl, rfl, rfl, by decide +kernel, rfl, by decide +kernel, by decide +kernel⟩
abbrev s_l_take : Stmt := top 30
abbrev N_l_take : List Str := ["_law_box", "_law_many", "_law_number"]
theorem sc_l_take : FnScope N_l_take ["_law_box", "_law_many"] (defScope s_l_take) := ⟨rfl, rfl, rfl, by decide +kernel, rfl, by decide +kernel, by decide +kernel⟩
abbrev s_l_alike : Stmt := top 31
abbrev N_l_alike : List Str := ["_law_found", "_law_due", "_law_k"]
theorem sc_l_alike : FnScope N_l_alike ["_law_found", "_law_due"] (defScope s_l_alike) := ⟨rfl, rfl, rfl, by decide +kernel, rfl, by decide +kernel, by decide +kernel⟩
abbrev s_l_row : Stmt := top 32
abbrev N_l_row : List Str := ["_law_box", "_law_most", "_law_pages", "_law_found", "_law_way", "_law_turn", "_law_page"]
theorem sc_l_row : FnScope N_l_row ["_law_box", "_law_most"] (defScope s_l_row) := ⟨rfl, rfl, rfl, by decide +kernel, rfl, by decide +kernel, by decide +kernel⟩
abbrev s_l_dial : Stmt := top 33
abbrev N_l_dial : List Str := ["_law_rooms"]
theorem sc_l_dial : FnScope N_l_dial ["_law_rooms"] (defScope s_l_dial) := ⟨rfl, rfl, rfl, by decide +kernel, rfl, by decide +kernel, by decide +kernel⟩
abbrev s_l_ask : Stmt := top 34
abbrev N_l_ask : List Str := ["_law_dial_here", "_law_page", "_law_rooms", "_law_passed", "_law_at", "_law_gone"]
theorem sc_l_ask : FnScope N_l_ask ["_law_dial_here", "_law_page"] (defScope s_l_ask) := ⟨rfl, rfl, rfl, by decide +kernel, rfl, by decide +kernel, by decide +kernel⟩
abbrev s_l_lacks : Stmt := top 35
abbrev N_l_lacks : List Str := ["_law_rooms", "_law_row_here", "_law_rule", "_law_dial_here", "_law_kept", "_law_found", "_law_place", "_law_page", "_law_lacks_here", "_law_one"]
theorem sc_l_lacks : FnScope N_l_lacks ["_law_rooms", "_law_row_here", "_law_rule"] (defScope s_l_lacks) := ⟨rfl, rfl, rfl, by decide +kernel, rfl, by decide +kernel, by decide +kernel⟩
abbrev s_l_parts : Stmt := top 36
abbrev N_l_parts : List Str := ["_law_rooms", "_law_row_here", "_law_found", "_law_pages", "_law_begin", "_law_place"]
theorem sc_l_parts : FnScope N_l_parts ["_law_rooms", "_law_row_here"] (defScope s_l_parts) := ⟨rfl, rfl, rfl, by decide +kernel, rfl, by decide +kernel, by decide +kernel⟩
abbrev s_l_law : Stmt := top 37
abbrev N_l_law : List Str := ["_law_script", "_law_box", "_law_turn", "_law_rooms", "_law_row_here", "_law_due", "_law_rule", "_law_lacks_here", "_law_counts", "_law_handed", "_law_again", "_law_found", "_law_begin", "_law_end", "_law_place"]
theorem sc_l_law : FnScope N_l_law ["_law_script"] (defScope s_l_law) := ⟨rfl, rfl, rfl, by decide +kernel, rfl, by decide +kernel, by decide +kernel⟩
/-- where the defs stand -/
structure Ad where
  a_need_rooms : Addr
  d_need_rooms : FuncData
  a_is_page : Addr
  d_is_page : FuncData
  a_need_row : Addr
  d_need_row : FuncData
  a_need_both : Addr
  d_need_both : FuncData
  a_Dial_init : Addr
  d_Dial_init : FuncData
  a_Dial_ask : Addr
  d_Dial_ask : FuncData
  a_Dial_pages : Addr
  d_Dial_pages : FuncData
  a_Dial_looked : Addr
  d_Dial_looked : FuncData
  a_Dial_points : Addr
  d_Dial_points : FuncData
  a_Dial_lacked : Addr
  d_Dial_lacked : FuncData
  a_round_told : Addr
  d_round_told : FuncData
  a_need_rule : Addr
  d_need_rule : FuncData
  a_by_row : Addr
  d_by_row : FuncData
  a_all_lacking : Addr
  d_all_lacking : FuncData
  a_all_stretches : Addr
  d_all_stretches : FuncData
  a_stretches : Addr
  d_stretches : FuncData
  a_lacking_in : Addr
  d_lacking_in : FuncData
  a_l_begun : Addr
  d_l_begun : FuncData
  a_l_take : Addr
  d_l_take : FuncData
  a_l_alike : Addr
  d_l_alike : FuncData
  a_l_row : Addr
  d_l_row : FuncData
  a_l_dial : Addr
  d_l_dial : FuncData
  a_l_ask : Addr
  d_l_ask : FuncData
  a_l_lacks : Addr
  d_l_lacks : FuncData
  a_l_parts : Addr
  d_l_parts : FuncData
  a_l_law : Addr
  d_l_law : FuncData
  t_MOST_ROOMS : Tok
  t_MOST_PAGES : Tok
  t_MOST_ASKS : Tok
  t_HAND : Tok
  t_UNSEEN : Tok
  a_RULES : Addr
  C_Dial : Addr
/-- what the top has written -/
structure Txt (K : PySem.W.Frag) (mg : Str → Option Value) (ad : Ad) : Prop where
  F_need_rooms : Fun K "need_rooms" "need_rooms" s_need_rooms ad.a_need_rooms ad.d_need_rooms
  b_need_rooms : Binds K ad.d_need_rooms ["rooms"] []
  m_need_rooms : mg "need_rooms" = some (.ref ad.a_need_rooms)
  F_is_page : Fun K "is_page" "is_page" s_is_page ad.a_is_page ad.d_is_page
  b_is_page : Binds K ad.d_is_page ["page"] []
  m_is_page : mg "is_page" = some (.ref ad.a_is_page)
  F_need_row : Fun K "need_row" "need_row" s_need_row ad.a_need_row ad.d_need_row
  b_need_row : Binds K ad.d_need_row ["row"] []
  m_need_row : mg "need_row" = some (.ref ad.a_need_row)
  F_need_both : Fun K "need_both" "need_both" s_need_both ad.a_need_both ad.d_need_both
  b_need_both : Binds K ad.d_need_both ["rooms", "row"] []
  m_need_both : mg "need_both" = some (.ref ad.a_need_both)
  F_Dial_init : Fun K "__init__" "Dial.__init__" s_Dial_init ad.a_Dial_init ad.d_Dial_init
  b_Dial_init : Binds K ad.d_Dial_init ["self", "rooms"] []
  mk_Dial : Mk K ad.C_Dial ad.a_Dial_init
  F_Dial_ask : Fun K "ask" "Dial.ask" s_Dial_ask ad.a_Dial_ask ad.d_Dial_ask
  b_Dial_ask : Binds K ad.d_Dial_ask ["self", "page"] []
  mt_Dial_ask : Meth K ad.C_Dial "ask" ad.a_Dial_ask
  F_Dial_pages : Fun K "pages" "Dial.pages" s_Dial_pages ad.a_Dial_pages ad.d_Dial_pages
  b_Dial_pages : Binds K ad.d_Dial_pages ["self"] []
  mt_Dial_pages : Meth K ad.C_Dial "pages" ad.a_Dial_pages
  F_Dial_looked : Fun K "looked" "Dial.looked" s_Dial_looked ad.a_Dial_looked ad.d_Dial_looked
  b_Dial_looked : Binds K ad.d_Dial_looked ["self"] []
  mt_Dial_looked : Meth K ad.C_Dial "looked" ad.a_Dial_looked
  F_Dial_points : Fun K "points" "Dial.points" s_Dial_points ad.a_Dial_points ad.d_Dial_points
  b_Dial_points : Binds K ad.d_Dial_points ["self"] []
  mt_Dial_points : Meth K ad.C_Dial "points" ad.a_Dial_points
  F_Dial_lacked : Fun K "lacked" "Dial.lacked" s_Dial_lacked ad.a_Dial_lacked ad.d_Dial_lacked
  b_Dial_lacked : Binds K ad.d_Dial_lacked ["self"] []
  mt_Dial_lacked : Meth K ad.C_Dial "lacked" ad.a_Dial_lacked
  F_round_told : Fun K "round_told" "round_told" s_round_told ad.a_round_told ad.d_round_told
  b_round_told : Binds K ad.d_round_told ["rooms", "row"] []
  m_round_told : mg "round_told" = some (.ref ad.a_round_told)
  F_need_rule : Fun K "need_rule" "need_rule" s_need_rule ad.a_need_rule ad.d_need_rule
  b_need_rule : Binds K ad.d_need_rule ["rule"] []
  m_need_rule : mg "need_rule" = some (.ref ad.a_need_rule)
  F_by_row : Fun K "by_row" "by_row" s_by_row ad.a_by_row ad.d_by_row
  b_by_row : Binds K ad.d_by_row ["rooms", "row", "rule"] []
  m_by_row : mg "by_row" = some (.ref ad.a_by_row)
  F_all_lacking : Fun K "all_lacking" "all_lacking" s_all_lacking ad.a_all_lacking ad.d_all_lacking
  b_all_lacking : Binds K ad.d_all_lacking ["rooms", "row", "rule"] []
  m_all_lacking : mg "all_lacking" = some (.ref ad.a_all_lacking)
  F_all_stretches : Fun K "all_stretches" "all_stretches" s_all_stretches ad.a_all_stretches ad.d_all_stretches
  b_all_stretches : Binds K ad.d_all_stretches ["rooms", "row"] []
  m_all_stretches : mg "all_stretches" = some (.ref ad.a_all_stretches)
  F_stretches : Fun K "stretches" "stretches" s_stretches ad.a_stretches ad.d_stretches
  b_stretches : Binds K ad.d_stretches ["rooms", "row"] []
  m_stretches : mg "stretches" = some (.ref ad.a_stretches)
  F_lacking_in : Fun K "lacking_in" "lacking_in" s_lacking_in ad.a_lacking_in ad.d_lacking_in
  b_lacking_in : Binds K ad.d_lacking_in ["rooms", "row", "rule"] []
  m_lacking_in : mg "lacking_in" = some (.ref ad.a_lacking_in)
  F_l_begun : Fun K "_law_begun" "_law_begun" s_l_begun ad.a_l_begun ad.d_l_begun
  b_l_begun : Binds K ad.d_l_begun ["_law_script"] []
  m_l_begun : mg "_law_begun" = some (.ref ad.a_l_begun)
  F_l_take : Fun K "_law_take" "_law_take" s_l_take ad.a_l_take ad.d_l_take
  b_l_take : Binds K ad.d_l_take ["_law_box", "_law_many"] []
  m_l_take : mg "_law_take" = some (.ref ad.a_l_take)
  F_l_alike : Fun K "_law_alike" "_law_alike" s_l_alike ad.a_l_alike ad.d_l_alike
  b_l_alike : Binds K ad.d_l_alike ["_law_found", "_law_due"] []
  m_l_alike : mg "_law_alike" = some (.ref ad.a_l_alike)
  F_l_row : Fun K "_law_row" "_law_row" s_l_row ad.a_l_row ad.d_l_row
  b_l_row : Binds K ad.d_l_row ["_law_box", "_law_most"] []
  m_l_row : mg "_law_row" = some (.ref ad.a_l_row)
  F_l_dial : Fun K "_law_dial" "_law_dial" s_l_dial ad.a_l_dial ad.d_l_dial
  b_l_dial : Binds K ad.d_l_dial ["_law_rooms"] []
  m_l_dial : mg "_law_dial" = some (.ref ad.a_l_dial)
  F_l_ask : Fun K "_law_ask" "_law_ask" s_l_ask ad.a_l_ask ad.d_l_ask
  b_l_ask : Binds K ad.d_l_ask ["_law_dial_here", "_law_page"] []
  m_l_ask : mg "_law_ask" = some (.ref ad.a_l_ask)
  F_l_lacks : Fun K "_law_lacks" "_law_lacks" s_l_lacks ad.a_l_lacks ad.d_l_lacks
  b_l_lacks : Binds K ad.d_l_lacks ["_law_rooms", "_law_row_here", "_law_rule"] []
  m_l_lacks : mg "_law_lacks" = some (.ref ad.a_l_lacks)
  F_l_parts : Fun K "_law_parts" "_law_parts" s_l_parts ad.a_l_parts ad.d_l_parts
  b_l_parts : Binds K ad.d_l_parts ["_law_rooms", "_law_row_here"] []
  m_l_parts : mg "_law_parts" = some (.ref ad.a_l_parts)
  F_l_law : Fun K "law" "law" s_l_law ad.a_l_law ad.d_l_law
  b_l_law : Binds K ad.d_l_law ["_law_script"] []
  m_l_law : mg "law" = some (.ref ad.a_l_law)
  m_MOST_ROOMS : mg "MOST_ROOMS" = some (.int 8 ad.t_MOST_ROOMS)
  m_MOST_PAGES : mg "MOST_PAGES" = some (.int 12 ad.t_MOST_PAGES)
  m_MOST_ASKS : mg "MOST_ASKS" = some (.int 100 ad.t_MOST_ASKS)
  m_HAND : mg "HAND" = some (.str (Str.ofString "hand") ad.t_HAND)
  m_UNSEEN : mg "UNSEEN" = some (.str (Str.ofString "unseen") ad.t_UNSEEN)
  m_RULES : mg "RULES" = some (.ref ad.a_RULES)
  k_RULES : ∃ xs : List V, xs = [.str (Str.ofString "hand"), .str (Str.ofString "unseen"), .str (Str.ofString "first")] ∧ ∀ H, SqT K H ad.a_RULES xs
  cl_Dial : Cls K ad.C_Dial
  m_Dial : mg "Dial" = some (.ref ad.C_Dial)
  n_Dial_here : NoAttr K ad.C_Dial "here"
  n_Dial_seen : NoAttr K ad.C_Dial "seen"
  n_Dial_hand : NoAttr K ad.C_Dial "hand"
  n_Dial_lacks : NoAttr K ad.C_Dial "lacks"
  z_len : mg "len" = none
  z_int : mg "int" = none
  z_min : mg "min" = none
  z_list : mg "list" = none
  z_set : mg "set" = none
  z_tuple : mg "tuple" = none
  z_isinstance : mg "isinstance" = none
  z_range : mg "range" = none
  z_enumerate : mg "enumerate" = none
  z_bool : mg "bool" = none
  z_str : mg "str" = none

/-! the stepping words: one row a key -/
local macro_rules | `(tactic| walk_at "cw ne") => `(tactic| first
  | assumption
  | ((with_reducible apply ne_s); assumption)
  | ((with_reducible apply ne_n); (· assumption); (walk_at "cw at"))
  | ((with_reducible apply ne_n'); (· assumption); (walk_at "cw at")))
local macro_rules | `(tactic| walk_at "cw at") => `(tactic| first
  | assumption
  | with_reducible exact upd_same
  | ((with_reducible apply at_ne); (· walk_at "cw ne"); (walk_at "cw at"))
  | ((with_reducible apply Fr.get0); (· assumption); (walk_at "cw at")))
local macro_rules | `(tactic| walk_at "cw sq") => `(tactic| first
  | assumption
  | ((with_reducible apply SqL.of); (walk_at "cw at"))
  | ((with_reducible apply SqT.of); (walk_at "cw at"))
  | ((with_reducible apply sq_new); (· walk_at "cw sq"); (· assumption))
  | ((with_reducible apply st_new); (· walk_at "cw sq"); (· assumption))
  | ((with_reducible apply Fr.seqL); (· assumption); (walk_at "cw sq"))
  | ((with_reducible apply Fr.seqT); (· assumption); (walk_at "cw sq")))
local macro_rules | `(tactic| walk_at "cw sz") => `(tactic| first
  | (show _ ≤ sizeLine; exact sz_le (by first | decide | omega | (simp only [List.length_append, List.length_map, List.length_cons, List.length_nil]; omega)))
  | (show _ < sizeLine; exact sz_lt (by first | decide | omega | (simp only [List.length_append, List.length_map, List.length_cons, List.length_nil]; omega))))
local macro_rules | `(tactic| walk_at "cw num") => `(tactic| first
  | ((with_reducible apply cpos_); omega)
  | ((with_reducible apply cdiv_) <;> omega)
  | ((with_reducible apply cmul_l) <;> omega)
  | ((with_reducible apply cmul_r) <;> omega))
local macro_rules | `(tactic| walk_at "cw ix") => `(tactic| first
  | exact rfl
  | assumption
  | with_reducible exact atI_0
  | exact atI_nat (by assumption))
local macro_rules | `(tactic| walk_at "cw ixn") => `(tactic| first
  | assumption
  | with_reducible exact ixN_0
  | with_reducible exact ixN_1
  | exact ixN_nat (by assumption))
local macro_rules | `(tactic| walk_at "cw set") => `(tactic| first
  | (simp only [List.set_cons_zero, List.set_cons_succ]; exact rfl)
  | exact rfl)
local macro_rules | `(tactic| walk_at "cw ty") => `(tactic| first
  | with_reducible exact .base .non
  | with_reducible exact .base (.bl _)
  | with_reducible exact .base (.int _)
  | with_reducible exact .base (.str _)
  | ((with_reducible apply ty_L); walk_at "cw sq")
  | ((with_reducible apply ty_T); walk_at "cw sq"))
local macro_rules | `(tactic| walk_at "cw kit") => `(tactic| first
  | with_reducible exact kb_NoneType_bool
  | with_reducible exact kb_NoneType_int
  | with_reducible exact kb_NoneType_str
  | with_reducible exact kb_NoneType_tuple
  | with_reducible exact kb_NoneType_list
  | with_reducible exact kb_bool_bool
  | with_reducible exact kb_bool_int
  | with_reducible exact kb_bool_str
  | with_reducible exact kb_bool_tuple
  | with_reducible exact kb_bool_list
  | with_reducible exact kb_int_bool
  | with_reducible exact kb_int_int
  | with_reducible exact kb_int_str
  | with_reducible exact kb_int_tuple
  | with_reducible exact kb_int_list
  | with_reducible exact kb_str_bool
  | with_reducible exact kb_str_int
  | with_reducible exact kb_str_str
  | with_reducible exact kb_str_tuple
  | with_reducible exact kb_str_list
  | with_reducible exact kb_list_bool
  | with_reducible exact kb_list_int
  | with_reducible exact kb_list_str
  | with_reducible exact kb_list_tuple
  | with_reducible exact kb_list_list
  | with_reducible exact kb_tuple_bool
  | with_reducible exact kb_tuple_int
  | with_reducible exact kb_tuple_str
  | with_reducible exact kb_tuple_tuple
  | with_reducible exact kb_tuple_list)
local macro_rules | `(tactic| walk_at "cw yes") => `(tactic| first
  | with_reducible rfl
  | assumption
  | omega)
local macro_rules | `(tactic| walk_at "cw no") => `(tactic| first
  | assumption
  | (intro cwh; cases cwh; done)
  | omega)
local macro_rules | `(tactic| walk_at "cw1") => `(tactic| first
  | with_reducible apply w_seq
  | with_reducible apply w_asg
  | with_reducible apply w_gn
  | ((with_reducible apply w_var); (· exact rfl))
  | with_reducible apply w_c
  | with_reducible apply w_op
  | with_reducible apply w_I0
  | ((with_reducible apply w_I); (· walk_at "cw num"))
  | with_reducible apply w_cb
  | with_reducible apply w_cons
  | with_reducible apply w_nil
  | with_reducible apply w_test
  | with_reducible apply w_B
  | with_reducible apply w_isbl
  | with_reducible apply w_ifS
  | with_reducible apply iteT
  | with_reducible apply iteF
  | with_reducible apply ite_nf
  | with_reducible apply ite_nt
  | with_reducible apply w_eqI
  | with_reducible apply w_neI
  | with_reducible apply w_eqB
  | with_reducible apply w_neB
  | with_reducible apply w_eqS
  | ((with_reducible apply w_ixL); (· walk_at "cw sq"); (· walk_at "cw ix"))
  | ((with_reducible apply w_ixT); (· walk_at "cw sq"); (· walk_at "cw ix"))
  | with_reducible apply w_and
  | with_reducible apply w_or
  | with_reducible apply w_not
  | with_reducible apply w_notV
  | with_reducible apply w_andV
  | with_reducible apply w_orV
  | with_reducible apply w_if
  | with_reducible apply w_isN
  | with_reducible apply w_notN
  | with_reducible apply w_chain
  | with_reducible apply w_un
  | with_reducible apply w_U
  | with_reducible apply w_drop
  | with_reducible apply w_ret
  | with_reducible apply w_next
  | with_reducible apply w_brk
  | with_reducible apply w_cont
  | with_reducible apply w_sub
  | ((with_reducible apply w_pop0); (· walk_at "cw at"); (· first | omega | (simp only [List.length_map]; omega)))
  | ((with_reducible apply w_gTup); (· walk_at "cw sq"); (· exact rfl))
  | with_reducible apply w_gCons
  | with_reducible apply w_gNil
  | with_reducible apply w_yes
  | ((with_reducible apply w_wipe); (· exact rfl))
  | with_reducible apply w_iEnum
  | with_reducible apply w_lc
  | with_reducible apply w_for
  | with_reducible apply w_iList
  | with_reducible apply w_iRng1
  | with_reducible apply w_iRng2
  | with_reducible apply w_lst
  | with_reducible apply w_tup
  | with_reducible apply w_call
  | with_reducible apply w_bm
  | with_reducible apply w_bm0
  | ((with_reducible apply w_tyL); (· walk_at "cw sq"))
  | ((with_reducible apply w_append); (· walk_at "cw at"); (· walk_at "cw sz"))
  | ((with_reducible apply w_lenL); (· walk_at "cw sq"))
  | ((with_reducible apply w_isi); (· walk_at "cw ty"); (· walk_at "cw kit"))
  | ((with_reducible apply w_lenT); (· walk_at "cw sq"))
  | ((with_reducible apply w_ixQL); (· walk_at "cw sq"); (· walk_at "cw ix"))
  | ((with_reducible apply w_ixQT); (· walk_at "cw sq"); (· walk_at "cw ix"))
  | ((with_reducible apply ite_dT); (· walk_at "cw yes"))
  | ((with_reducible apply ite_dF); (· walk_at "cw no"))
  | ((with_reducible apply ite_nT); (· walk_at "cw no"))
  | ((with_reducible apply ite_nF); (· walk_at "cw yes"))
  | with_reducible apply w_intB
  | with_reducible apply w_intI
  | with_reducible apply w_min2
  | ((with_reducible apply w_setL); (· walk_at "cw at"); (· walk_at "cw ixn"); (· walk_at "cw set"))
  | ((with_reducible apply w_listL); (· walk_at "cw sq"); intro lp lpn)
  | ((with_reducible apply w_new); (· walk_at "cw sz"); intro np npn)
  | ((with_reducible apply w_eqD0); (· walk_at "cw sq"); (· walk_at "cw sq"))
  | ((with_reducible apply w_neD0); (· walk_at "cw sq"); (· walk_at "cw sq"))
  | ((with_reducible apply w_neDI); (· walk_at "cw sq"); (· walk_at "cw sq"))
  | ((with_reducible apply w_eqDI); (· walk_at "cw sq"); (· walk_at "cw sq")))
local macro_rules | `(tactic| walk_at "cw") => `(tactic| repeat walk_at "cw1")
local macro_rules | `(tactic| walk_at "cw if") => `(tactic| first
  | with_reducible apply ite_d
  | with_reducible apply ite_nd
  | with_reducible apply ite_b)

local macro_rules | `(tactic| walk_at "cw attr") => `(tactic| first
  | with_reducible exact Txt.n_Dial_here (by assumption)
  | with_reducible exact Txt.n_Dial_seen (by assumption)
  | with_reducible exact Txt.n_Dial_hand (by assumption)
  | with_reducible exact Txt.n_Dial_lacks (by assumption))
local macro_rules | `(tactic| walk_at "cw lk") => `(tactic| first
  | with_reducible exact lk_here _ _ _ _
  | with_reducible exact lk_seen _ _ _ _
  | with_reducible exact lk_hand _ _ _ _
  | with_reducible exact lk_lacks _ _ _ _)
local macro_rules | `(tactic| walk_at "cw put") => `(tactic| first
  | with_reducible exact dfl_hand _ _ _ _ _
  | with_reducible exact dfl_lacks _ _ _ _ _)
local macro_rules | `(tactic| walk_at "cw dk") => `(tactic| first
  | with_reducible exact ddl_pages _ _ _ _
  | with_reducible exact ddl_marks _ _ _ _
  | with_reducible exact ddl_hand _ _ _ _
  | with_reducible exact ddl_lacks _ _ _ _)
local macro_rules | `(tactic| walk_at "cw dp") => `(tactic| first
  | with_reducible exact ddl_putH _ _ _ _ _
  | with_reducible exact ddl_putL _ _ _ _ _)
local macro_rules | `(tactic| walk_at "cw2") => `(tactic| first
  | walk_at "cw1"
  | with_reducible apply w_fld
  | ((with_reducible apply w_fldR); (· walk_at "cw at"); (· exact Txt.cl_Dial (by assumption)); (· walk_at "cw attr"); (· walk_at "cw lk"))
  | with_reducible apply w_sFld
  | ((with_reducible apply w_sFldR); (· walk_at "cw at"); (· exact Txt.cl_Dial (by assumption)); (· walk_at "cw attr"); (· exact dfl_len _ _ _ _); (· walk_at "cw put"))
  | with_reducible apply w_aug
  | ((with_reducible apply w_augR); (· walk_at "cw at"); (· exact Txt.cl_Dial (by assumption)); (· walk_at "cw attr"); (· walk_at "cw lk"))
  | with_reducible apply w_rAdd
  | ((with_reducible apply w_augS); (· walk_at "cw at"); (· exact dfl_len _ _ _ _); (· walk_at "cw put"))
  | ((with_reducible apply w_inI); (· walk_at "cw sq"))
  | ((with_reducible apply w_niI); (· walk_at "cw sq"))
  | with_reducible apply w_sl
  | with_reducible apply w_part
  | with_reducible apply w_nopart
  | with_reducible apply w_isInt
  | ((with_reducible apply w_slL); (· walk_at "cw sq"); intro slp slpn)
  | ((with_reducible apply w_cat); (· walk_at "cw at"); (· walk_at "cw at"); (· walk_at "cw sz"); intro ctp ctpn)
  | with_reducible apply w_dget
  | ((with_reducible apply w_dgetS); (· walk_at "cw at"); (· walk_at "cw dk"))
  | with_reducible apply w_dput
  | ((with_reducible apply w_dputS); (· walk_at "cw at"); (· exact ddl_len _ _ _ _); (· walk_at "cw dp"))
  | ((with_reducible apply w_rep); (· walk_at "cw at"); (· omega); (· omega); (· exact (by decide)); intro rpp rppn)
  | ((with_reducible apply w_disp); intro dpp dppn)
  | with_reducible apply w_pairs
  | with_reducible apply w_pairs0
  | with_reducible apply w_make
  | with_reducible apply w_meth)
local macro_rules | `(tactic| walk_at "cwd") => `(tactic| repeat walk_at "cw2")

local macro_rules | `(tactic| walk_at "cw3") => `(tactic| first
  | walk_at "cw2"
  | with_reducible apply w_lenSetD)
local macro_rules | `(tactic| walk_at "cws") => `(tactic| repeat walk_at "cw3")

section
variable {P : Program} {w : World} {K : PySem.W.Frag} {mg : Str → Option Value} {base : Heap} {ad : Ad}
/-! need_rooms -/
def sp_need_rooms : Sp := fun vs H Q _ => ∃ r : Int, vs = [.int r] ∧ 1 ≤ r ∧ r ≤ 8 ∧ Q .non H
theorem c_need_rooms {H : Hp} {Q : VK} {E : XK} {r : Int} (h1 : 1 ≤ r) (h2 : r ≤ 8) (q : Q .non H) : sp_need_rooms ([.int r] ++ []) H Q E := ⟨r, rfl, h1, h2, q⟩
theorem ok_need_rooms (T : Txt K mg ad) : FnOk P w K mg base CX0 1 ad.a_need_rooms ad.d_need_rooms ["rooms"] sp_need_rooms := by
  refine T.F_need_rooms.ok sc_need_rooms (fun vs H Q E h => ?_) (fun cdv A outer s H vs Q E hr h => ?_)
  · obtain ⟨r, rfl, _⟩ := h
    rfl
  obtain ⟨r, rfl, h1, h2, q⟩ := h
  refine ⟨_, (pss_one (ps_if (pt_not (pt_chain op_le op_le pe_int (pv 0) (pe_glob (v := .int 8) rfl T.m_MOST_ROOMS ⟨_, rfl⟩))) (pss_one ps_never) pss_nil)), ?_⟩
  try dsimp only [L2.cxOf, L2.Cx.nox]
  walk_at "cw"
  exact q

/-! is_page -/
def sp_is_page : Sp := fun vs H Q _ => ∃ x : Int, vs = [.int x] ∧ 0 ≤ x ∧ x < 12 ∧ Q (.bl true) H
theorem c_is_page {H : Hp} {Q : VK} {E : XK} {x : Int} (h1 : 0 ≤ x) (h2 : x < 12) (q : Q (.bl true) H) : sp_is_page ([.int x] ++ []) H Q E := ⟨x, rfl, h1, h2, q⟩
theorem ok_is_page (T : Txt K mg ad) : FnOk P w K mg base CX0 1 ad.a_is_page ad.d_is_page ["page"] sp_is_page := by
  refine T.F_is_page.ok sc_is_page (fun vs H Q E h => ?_) (fun cdv A outer s H vs Q E hr h => ?_)
  · obtain ⟨x, rfl, _⟩ := h
    rfl
  obtain ⟨x, rfl, h1, h2, q⟩ := h
  refine ⟨_, (pss_one (ps_ret (pe_chain op_le op_lt pe_int (pv 0) (pe_glob (v := .int 12) rfl T.m_MOST_PAGES ⟨_, rfl⟩)))), ?_⟩
  try dsimp only [L2.cxOf, L2.Cx.nox]
  walk_at "cw"
  rw [decide_eq_true h2]
  exact q

/-! need_row -/
/-- a row that may be handed in -/
def RowOk (ns : List Int) : Prop := ns.length ≤ 100 ∧ ∀ x ∈ ns, 0 ≤ x ∧ x < 12
def sp_need_row (K : PySem.W.Frag) : Sp := fun vs H Q _ => ∃ (a : Addr) (ns : List Int), vs = [.ref a] ∧ SqL K H a (ns.map V.int) ∧ RowOk ns ∧ ∀ H', Fr [] H H' → Q .non H'
theorem c_need_row {H : Hp} {Q : VK} {E : XK} {a : Addr} {ns : List Int} (h : SqL K H a (ns.map V.int)) (hr : RowOk ns) (q : ∀ H', Fr [] H H' → Q .non H') : sp_need_row K ([.ref a] ++ []) H Q E := ⟨a, ns, rfl, h, hr, q⟩
theorem ok_need_row (T : Txt K mg ad) : FnOk P w K mg base CX0 2 ad.a_need_row ad.d_need_row ["row"] (sp_need_row K) := by
  refine T.F_need_row.ok sc_need_row (fun vs H Q E h => ?_) (fun cdv A outer s H vs Q E hr h => ?_)
  · obtain ⟨a, ns, rfl, _⟩ := h
    rfl
  obtain ⟨a, ns, rfl, hS, ⟨hl, hp⟩, k⟩ := h
  refine ⟨_, (pss_one (ps_for PassesOwn.never rfl (kIE (K := K) rfl (pi_enum (by rfl) T.z_enumerate (pa_cons (pv 0) pa_nil))) (kTup (K := K) (n := 2) rfl (pg_tup (by rfl) (pgs_cons (pg_name (i := 1) sc_need_row.nd rfl (by first | exact Or.inl rfl | exact Or.inr rfl)) (pgs_cons (pg_name (i := 2) sc_need_row.nd rfl (by first | exact Or.inl rfl | exact Or.inr rfl)) pgs_nil)))) (pss_one (ps_if (PW.pt (pw_or (pt_cmpR op_ge (pv 1) (pe_glob (v := .int 100) rfl T.m_MOST_ASKS ⟨_, rfl⟩) (nomark _)) (pw_or1 (pt_not (pt_val (pe_call (ok_is_page T) (hr.mono (by decide)) (by rfl) T.m_is_page T.F_is_page.kp T.b_is_page .nil pass0 (pa_cons (pv 2) pa_nil))))))) (pss_one ps_never) pss_nil)))), ?_⟩
  try dsimp only [L2.cxOf, L2.Cx.nox]
  walk_at "cw"
  refine f_enum (ns.map V.int) hS (fun i σ H' => ∃ v1 v2 : Option V, σ = [some (.ref a), v1, v2] ∧ Fr [] H H') ⟨none, none, rfl, .refl⟩ (fun i σ H' _ ⟨_, _, _, f⟩ => f.seqL hS) ?_ ?_
  · rintro i x t σ H' hi ⟨v1, v2, rfl, f⟩ ht
    obtain ⟨z, hz, rfl⟩ := int_at hi
    have hzl := (List.getElem?_eq_some_iff.mp hz).1
    obtain ⟨z0, z1⟩ := hp z (List.mem_of_getElem? hz)
    walk_at "cw"
    refine c_is_page z0 z1 ?_
    walk_at "cw"
    exact ⟨_, _, rfl, f.more (Fr.new ht)⟩
  · rintro σ H' ⟨v1, v2, rfl, f⟩
    exact k H' f

/-! need_both -/
def sp_need_both (K : PySem.W.Frag) : Sp := fun vs H Q _ => ∃ (r : Int) (a : Addr) (ns : List Int), vs = [.int r, .ref a] ∧ 1 ≤ r ∧ r ≤ 8 ∧ SqL K H a (ns.map V.int) ∧ RowOk ns ∧ ∀ H', Fr [] H H' → Q .non H'
theorem c_need_both {H : Hp} {Q : VK} {E : XK} {r : Int} {a : Addr} {ns : List Int} (h1 : 1 ≤ r) (h2 : r ≤ 8) (h : SqL K H a (ns.map V.int)) (hr : RowOk ns) (q : ∀ H', Fr [] H H' → Q .non H') : sp_need_both K ([.int r, .ref a] ++ []) H Q E := ⟨r, a, ns, rfl, h1, h2, h, hr, q⟩
theorem ok_need_both (T : Txt K mg ad) : FnOk P w K mg base CX0 3 ad.a_need_both ad.d_need_both ["rooms", "row"] (sp_need_both K) := by
  refine T.F_need_both.ok sc_need_both (fun vs H Q E h => ?_) (fun cdv A outer s H vs Q E hr h => ?_)
  · obtain ⟨r, a, ns, rfl, _⟩ := h
    rfl
  obtain ⟨r, a, ns, rfl, h1, h2, hS, hR, k⟩ := h
  refine ⟨_, (pss_cons (ps_expr (pe_call (ok_need_rooms T) (hr.mono (by decide)) (by rfl) T.m_need_rooms T.F_need_rooms.kp T.b_need_rooms .nil pass0 (pa_cons (pv 0) pa_nil)))
    (pss_one (ps_expr (pe_call (ok_need_row T) (hr.mono (by decide)) (by rfl) T.m_need_row T.F_need_row.kp T.b_need_row .nil pass0 (pa_cons (pv 1) pa_nil))))), ?_⟩
  try dsimp only [L2.cxOf, L2.Cx.nox]
  walk_at "cw"
  refine c_need_rooms h1 h2 ?_
  walk_at "cw"
  refine c_need_row hS hR fun H' f => ?_
  exact k H' f

/-! Dial.__init__ -/
def sp_Dial_init (C : Addr) : Sp := fun vs H Q _ => ∃ (p dx : Addr) (n : Int), vs = [.ref p, .int n] ∧ H p = some (.ins C dx []) ∧ 1 ≤ n ∧ n ≤ 8 ∧
  ∀ a b H', Fr [p] H H' → H a = none → H b = none → a ≠ b → DialAt C H' p a b (Dl.new n.toNat) → Q .non H'
theorem ok_Dial_init (T : Txt K mg ad) : FnOk P w K mg base CX0 2 ad.a_Dial_init ad.d_Dial_init ["self", "rooms"] (sp_Dial_init ad.C_Dial) := by
  refine T.F_Dial_init.ok sc_Dial_init (fun vs H Q E h => ?_) (fun cdv A outer s H vs Q E hr h => ?_)
  · obtain ⟨p, dx, n, rfl, _⟩ := h
    rfl
  obtain ⟨p, dx, n, rfl, hp, n0, n8, k⟩ := h
  refine ⟨_, (pss_cons (ps_expr (pe_call (ok_need_rooms T) (hr.mono (by decide)) (by rfl) T.m_need_rooms T.F_need_rooms.kp T.b_need_rooms .nil pass0 (pa_cons (pv 1) pa_nil)))
    (pss_cons (ps_fld (pv 0) (pe_lc (own := [("room", 2)]) (by rfl) sc_Dial_init.nd (pi_range1 (by rfl) T.z_range (pa_cons (pv 1) pa_nil)) (blkOk_by (own := [("room", 2)]) (N := N_Dial_init) (sc := defScope s_Dial_init) (by decide +kernel)) (fun _ _ _ _ _ => (pg_name (i := 2) sc_Dial_init.nd rfl (by first | exact Or.inl rfl | exact Or.inr rfl))) (fun _ _ _ _ _ => pts_nil) (fun _ _ _ _ _ => pe_non)) rfl)
    (pss_cons (ps_fld (pv 0) (pe_lc (own := [("room", 2)]) (by rfl) sc_Dial_init.nd (pi_range1 (by rfl) T.z_range (pa_cons (pv 1) pa_nil)) (blkOk_by (own := [("room", 2)]) (N := N_Dial_init) (sc := defScope s_Dial_init) (by decide +kernel)) (fun _ _ _ _ _ => (pg_name (i := 2) sc_Dial_init.nd rfl (by first | exact Or.inl rfl | exact Or.inr rfl))) (fun _ _ _ _ _ => pts_nil) (fun _ _ _ _ _ => pe_bl)) rfl)
    (pss_cons (ps_fld (pv 0) pe_int rfl)
    (pss_one (ps_fld (pv 0) pe_int rfl)))))), ?_⟩
  try dsimp only [L2.cxOf, L2.Cx.nox]
  walk_at "cwd"
  refine c_need_rooms n0 n8 ?_
  walk_at "cwd"
  refine l_rng1 (j := n) (by omega) (by omega) (fun D i acc H' => Fr [] H H' ∧ acc = List.replicate i V.non) (fun D hD => ⟨Fr.new hD, rfl⟩) ?_ ?_
  · rintro D i acc H' hD hi ⟨f, rfl⟩ hacc hl
    walk_at "cwd"
    exact lc_end hacc (by simp) (by omega) ⟨f.comp (W1 := [D]) (Fr.at (by simp)) (by simp [hD]), by rw [List.replicate_succ']⟩
  rintro a acc H1 ha ⟨f1, rfl⟩ h1 _
  walk_at "cwd"
  refine w_sFldR (f1.get0 hp) T.cl_Dial T.n_Dial_here (by decide) rfl ?_
  walk_at "cwd"
  generalize hE : upd H1 p (.ins ad.C_Dial dx (putF "here" (.ref a) [])) = H2
  have hp1 := f1.get0 hp
  have F2 : Fr [p] H1 H2 := hE ▸ Fr.at (by simp)
  have nap : a ≠ p := fun e => by rw [e, hp] at ha; cases ha
  have h2 : H2 p = some (.ins ad.C_Dial dx (putF "here" (.ref a) [])) := hE ▸ upd_same
  have h2a : H2 a = some (.lst (List.replicate n.toNat V.non)) := F2.get h1 (by simp [nap])
  clear hE
  refine l_rng1 (j := n) (by omega) (by omega) (fun D i acc H' => Fr [] H2 H' ∧ acc = List.replicate i (V.bl false)) (fun D hD => ⟨Fr.new hD, rfl⟩) ?_ ?_
  · rintro D i acc H' hD hi ⟨f, rfl⟩ hacc hl
    walk_at "cwd"
    exact lc_end hacc (by simp) (by omega) ⟨f.comp (W1 := [D]) (Fr.at (by simp)) (by simp [hD]), by rw [List.replicate_succ']⟩
  rintro b acc H3 hb ⟨f3, rfl⟩ h3 _
  walk_at "cwd"
  have nbp : b ≠ p := ne_s (ne_of_none h2 hb)
  have nab : a ≠ b := ne_of_none h2a hb
  refine w_sFldR (f3.get0 h2) T.cl_Dial T.n_Dial_seen (by simp [putF]) rfl ?_
  walk_at "cwd"
  refine w_sFldR upd_same T.cl_Dial T.n_Dial_hand (by simp [putF, str_hs]) rfl ?_
  walk_at "cwd"
  refine w_sFldR upd_same T.cl_Dial T.n_Dial_lacks (by simp [putF, str_hs, str_hh, str_sh]) (dfl_made a b 0 0) ?_
  rw [upd_upd, upd_upd]
  have F : Fr [p] H H3 := (f1.of0.trans F2).more f3
  refine k a b _ (F.trans (Fr.at (by simp))) ha (f1.free (F2.free hb)) nab ⟨⟨dx, upd_same⟩, ?_, ?_⟩
  · rw [upd_ne nap, f3.get0 h2a]; simp [Dl.new, oV]
  · rw [upd_ne nbp, h3]; simp [Dl.new]

/-! Dial.ask -/
def sp_Dial_ask (C : Addr) : Sp := fun vs H Q _ => ∃ (p a b : Addr) (d : Dl) (n : Nat) (x : Int), vs = [.ref p, .int x] ∧ DialAt C H p a b d ∧ d.Wf n ∧ p ≠ a ∧ p ≠ b ∧ a ≠ b ∧ 0 ≤ x ∧ x < 12 ∧
  ∀ t q H', Fr [p, a, b] H H' → DialAt C H' p a b (d.ask x).1 → H t = none → H q = none → H' t = some (.tup (toldV (d.ask x).2 q)) → H' q = some (.lst (natsV (d.ask x).2.passed)) → Q (.ref t) H'
theorem ok_Dial_ask (T : Txt K mg ad) : FnOk P w K mg base CX0 2 ad.a_Dial_ask ad.d_Dial_ask ["self", "page"] (sp_Dial_ask ad.C_Dial) := by
  refine T.F_Dial_ask.ok sc_Dial_ask (fun vs H Q E h => ?_) (fun cdv A outer s H vs Q E hr h => ?_)
  · obtain ⟨p, a, b, d, n, x, rfl, _⟩ := h
    rfl
  obtain ⟨p, a, b, d, n, x, rfl, hD, hW, npa, npb, nab, x0, x1, k⟩ := h
  obtain ⟨⟨dx, h1⟩, h2, h3⟩ := id hD
  obtain ⟨n0, n8, hl, sl, hd, mk⟩ := id hW
  have hml : (d.here.map oV).length = n := by rw [List.length_map]; exact hl
  refine ⟨_, (pss_cons (ps_if (pt_not (pt_val (pe_call (ok_is_page T) (hr.mono (by decide)) (by rfl) T.m_is_page T.F_is_page.kp T.b_is_page .nil pass0 (pa_cons (pv 1) pa_nil)))) (pss_one ps_never) pss_nil)
    (pss_cons (ps_if (pt_cmpR (kIn K rfl) (pv 1) (kFld (K := K) rfl (pe_fld (pv 0) rfl)) (by with_unfolding_all rfl)) (pss_cons (ps_asg pe_bl (pg_sub (kFld (K := K) rfl (pe_fld (pv 0) rfl)) (kBM (K := K) rfl (pe_bm PySem.F.plainAttrs_list PySem.F.slot_list_index PySem.F.type_list_index (kIndex K rfl) (kFld (K := K) rfl (pe_fld (pv 0) rfl)) (pa_cons (pv 1) pa_nil))) set_list))
    (pss_one (ps_ret (pe_tup (pa_cons pe_bl (pa_cons pe_non (pa_cons (pe_lst pa_nil) pa_nil))))))) pss_nil)
    (pss_cons (ps_set (i := 2) sc_Dial_ask.nd rfl (by first | exact Or.inl rfl | exact Or.inr rfl) (pe_lst pa_nil))
    (C8.pss_cut (ps_while PassesOwn.never (PW.pt (pw_and (pt_cmpR op_notN1 (pe_ix (kIxL K rfl) (kFld (K := K) rfl (pe_fld (pv 0) rfl)) (kFld (K := K) rfl (pe_fld (pv 0) rfl)) (fun _ _ => rfl)) pe_non (nomark _)) (pw_and1 (pt_val (pe_ix (kIxL K rfl) (kFld (K := K) rfl (pe_fld (pv 0) rfl)) (kFld (K := K) rfl (pe_fld (pv 0) rfl)) (fun _ _ => rfl)))))) (pss_cons (ps_asg pe_bl (pg_sub (kFld (K := K) rfl (pe_fld (pv 0) rfl)) (kFld (K := K) rfl (pe_fld (pv 0) rfl)) set_list))
    (pss_cons (ps_expr (kBM (K := K) rfl (pe_bm PySem.F.plainAttrs_list PySem.F.slot_list_append PySem.F.type_list_append mt_append (pv 2) (pa_cons (kFld (K := K) rfl (pe_fld (pv 0) rfl)) pa_nil))))
    (pss_one (ps_fld (pv 0) (pe_op op_mod (pe_op op_add (kFld (K := K) rfl (pe_fld (pv 0) rfl)) pe_int) (pe_callB (kLen K rfl) (by rfl) T.z_len (by decide +kernel) (pa_cons (kFld (K := K) rfl (pe_fld (pv 0) rfl)) pa_nil))) rfl)))))
    (pss_cons (ps_set (i := 3) sc_Dial_ask.nd rfl (by first | exact Or.inl rfl | exact Or.inr rfl) (pe_ix (kIxL K rfl) (kFld (K := K) rfl (pe_fld (pv 0) rfl)) (kFld (K := K) rfl (pe_fld (pv 0) rfl)) (fun _ _ => rfl)))
    (pss_cons (ps_asg (pv 1) (pg_sub (kFld (K := K) rfl (pe_fld (pv 0) rfl)) (kFld (K := K) rfl (pe_fld (pv 0) rfl)) set_list))
    (pss_cons (ps_asg pe_bl (pg_sub (kFld (K := K) rfl (pe_fld (pv 0) rfl)) (kFld (K := K) rfl (pe_fld (pv 0) rfl)) set_list))
    (pss_cons (ps_fld (pv 0) (pe_op op_mod (pe_op op_add (kFld (K := K) rfl (pe_fld (pv 0) rfl)) pe_int) (pe_callB (kLen K rfl) (by rfl) T.z_len (by decide +kernel) (pa_cons (kFld (K := K) rfl (pe_fld (pv 0) rfl)) pa_nil))) rfl)
    (pss_cons (ps_fldaug (pv 0) pe_int in_add)
    (pss_one (ps_ret (pe_tup (pa_cons pe_bl (pa_cons (pv 3) (pa_cons (pv 2) pa_nil))))))))))))))), ?_⟩
  try dsimp only [L2.cxOf, L2.Cx.nox]
  walk_at "cwd"
  refine c_is_page x0 x1 ?_
  walk_at "cwd"
  refine w_inL (SqL.of h2) rfl (flat_oV _) (in_oV x d.here) ?_
  walk_at "cwd"
  walk_at "cw if" <;> intro e
  · walk_at "cwd"
    refine w_index (SqL.of h2) e ?_
    have hj := List.idxOf_lt_length_iff.mpr e
    refine w_setL h3 (ixN_nat (by rw [List.length_map]; omega)) rfl ?_
    walk_at "cwd"
    rename_i q hq t ht
    have ea : d.ask x = ({ d with seen := d.seen.set (d.here.idxOf (some x)) true }, ⟨false, none, []⟩) := by unfold Dl.ask; rw [if_pos e]
    rw [ea] at k
    have hq0 : H q = none := upd_none hq
    have ht0 : H t = none := upd_none (upd_none ht)
    have ntq : q ≠ t := ne_of_none upd_same ht
    have nq : ∀ c o, H c = some o → c ≠ q := fun c o h => ne_of_none h hq0
    have nt : ∀ c o, H c = some o → c ≠ t := fun c o h => ne_of_none h ht0
    refine k t q _ (((Fr.at (by simp)).trans (Fr.new hq)).trans (Fr.new ht)) ⟨⟨dx, ?_⟩, ?_, ?_⟩ ht0 hq0 upd_same ?_
    · rw [upd_ne (nt p _ h1), upd_ne (nq p _ h1), upd_ne npb]; exact h1
    · rw [upd_ne (nt a _ h2), upd_ne (nq a _ h2), upd_ne nab]; exact h2
    · rw [upd_ne (nt b _ h3), upd_ne (nq b _ h3), upd_same, List.map_set]
    · rw [upd_ne ntq]; exact upd_same
  · walk_at "cwd"
    rename_i q hq
    have npq : p ≠ q := ne_of_none h1 hq
    have naq : a ≠ q := ne_of_none h2 hq
    have nbq : b ≠ q := ne_of_none h3 hq
    refine w_cut (fun σ H' => ∃ v, σ = [some (.ref p), some (.int x), some (.ref q), v] ∧ Fr [p, a, b] H H' ∧ H' p = some (.ins ad.C_Dial dx (dfl a b d.spin.2.1 d.lacks)) ∧ H' a = some (.lst (d.here.map oV)) ∧
      H' b = some (.lst (d.spin.1.map V.bl)) ∧ H' q = some (.lst (natsV d.spin.2.2))) ?_ ?_
    · refine f_while (fun m σ H' => ∃ (sc : List Bool) (hc : Nat) (pc : List Nat), m = sc.count true ∧ σ = [some (.ref p), some (.int x), some (.ref q), none] ∧ Fr [p, a, b] H H' ∧
        H' p = some (.ins ad.C_Dial dx (dfl a b hc d.lacks)) ∧ H' a = some (.lst (d.here.map oV)) ∧ H' b = some (.lst (sc.map V.bl)) ∧ H' q = some (.lst (natsV pc)) ∧ sc.length = n ∧ hc < n ∧ pc.length + sc.count true ≤ 8 ∧
        (∀ i : Nat, sc[i]? = some true → d.seen[i]? = some true) ∧ ((Cw.spin n (sc.count true) sc hc).1, (Cw.spin n (sc.count true) sc hc).2.1, pc ++ (Cw.spin n (sc.count true) sc hc).2.2) = d.spin)
        (d.seen.count true) ⟨d.seen, d.hand, [], rfl, rfl, Fr.new hq, ?_, ?_, ?_, upd_same, sl, hd, ?_, fun _ h => h, ?_⟩ ?_
      · rw [upd_ne npq]; exact h1
      · rw [upd_ne naq]; exact h2
      · rw [upd_ne nbq]; exact h3
      · have := List.count_le_length (a := true) (l := d.seen)
        simp
        omega
      · unfold Dl.spin
        rw [hl]
        simp
      rintro m σ H1 ⟨sc, hc, pc, rfl, rfl, F, g1, g2, g3, g4, cl, ch, cz, cs, ce⟩
      have hat : atI (d.here.map oV) (hc : Int) = some (oV d.here[hc]) := atI_nat (by rw [List.getElem?_map, List.getElem?_eq_getElem (by omega)]; rfl)
      have sat : atI (sc.map V.bl) (hc : Int) = some (.bl sc[hc]) := atI_nat (by rw [List.getElem?_map, List.getElem?_eq_getElem (by omega)]; rfl)
      have gs : sc[hc]? = some sc[hc] := List.getElem?_eq_getElem (by omega)
      -- the hand stops
      have fin : ¬ sc[hc]? = some true → ∃ v, [some (V.ref p), some (.int x), some (.ref q), none] = [some (.ref p), some (.int x), some (.ref q), v] ∧ Fr [p, a, b] H H1 ∧ H1 p = some (.ins ad.C_Dial dx (dfl a b d.spin.2.1 d.lacks)) ∧ H1 a = some (.lst (d.here.map oV)) ∧
          H1 b = some (.lst (d.spin.1.map V.bl)) ∧ H1 q = some (.lst (natsV d.spin.2.2)) := fun z => by
        rw [spin_stop z] at ce
        rw [← ce]
        exact ⟨none, rfl, F, g1, g2, g3, by simpa using g4⟩
      walk_at "cwd"
      walk_at "cw if" <;> intro e1
      · walk_at "cwd"
        walk_at "cw if" <;> intro e2
        · rw [e2] at gs
          walk_at "cwd"
          refine w_turn ?_
          have co := count_off gs
          have go := spin_go (n := n) gs
          walk_at "cwd"
          refine w_setL g3 (ixN_nat (by rw [List.length_map]; omega)) List.map_set.symm ?_
          have nqb : q ≠ b := ne_s nbq
          have nqp : q ≠ p := ne_s npq
          walk_at "cwd"
          refine w_append (xs := natsV pc) (by walk_at "cw at") (sz_lt (by simp [natsV]; omega)) ?_
          walk_at "cwd"
          refine ⟨p, _, dx, _, rfl, (by walk_at "cw at"), T.cl_Dial, T.n_Dial_hand, dfl_len _ _ _ _, ?_⟩
          have em : ((hc : Int) + 1) % (n : Int) = (((hc + 1) % n : Nat) : Int) := by rw [Int.natCast_emod, Int.natCast_add]; rfl
          rw [hml, dfl_hand, em]
          rw [go] at ce
          refine ⟨(sc.set hc false).count true, by omega, sc.set hc false, (hc + 1) % n, pc ++ [hc], rfl, rfl, ?_, upd_same, ?_, ?_, ?_, by simp [cl], Nat.mod_lt _ n0, by simp; omega, fun i hi => ?_, ?_⟩
          · exact ((F.trans (Fr.at (by simp))).comp (W1 := [q]) (Fr.at (by simp)) (by simp [hq])).trans (Fr.at (by simp))
          · rw [upd_ne (ne_s npa), upd_ne naq, upd_ne nab]; exact g2
          · rw [upd_ne (ne_s npb), upd_ne nbq, upd_same]
          · rw [upd_ne nqp, upd_same]; simp [natsV]
          · by_cases hi' : i = hc
            · rw [hi', List.getElem?_set_self (by omega)] at hi; cases hi
            · rw [List.getElem?_set_ne (fun z => hi' z.symm)] at hi; exact cs i hi
          · rw [← ce]; simp
        · walk_at "cwd"
          exact fin (by rw [gs, e2]; simp)
      · walk_at "cwd"
        refine fin fun z => ?_
        obtain ⟨y, hy⟩ := mk hc (cs hc z)
        rw [List.getElem?_eq_getElem (by omega)] at hy
        rw [Option.some.inj hy] at e1
        cases e1
    · rintro σ H1 ⟨v, rfl, F, g1, g2, g3, g4⟩
      have hf := spin_facts n0 (d.seen.count true) d.seen d.hand (Nat.le_refl _) sl hd
      have es : d.spin = Cw.spin n (d.seen.count true) d.seen d.hand := by unfold Dl.spin; rw [hl]
      rw [← es] at hf
      obtain ⟨f1, f2, f3, f4⟩ := hf
      have hat : atI (d.here.map oV) (d.spin.2.1 : Int) = some (oV (d.here[d.spin.2.1]?).join) := atI_nat (by rw [List.getElem?_map, List.getElem?_eq_getElem (by omega)]; rfl)
      walk_at "cwd"
      refine w_setL g2 (ixN_nat (by rw [List.length_map]; omega)) (show (d.here.map oV).set d.spin.2.1 (oV (some x)) = _ from List.map_set.symm) ?_
      walk_at "cwd"
      refine w_setL (xs := d.spin.1.map V.bl) (by walk_at "cw at") (ixN_nat (by rw [List.length_map]; omega)) List.map_set.symm ?_
      walk_at "cwd"
      have hml2 : ((d.here.set d.spin.2.1 (some x)).map oV).length = n := by rw [List.length_map, List.length_set]; exact hl
      rw [hml2]
      walk_at "cwd"
      rename_i t ht
      have em : ((d.spin.2.1 : Int) + 1) % (n : Int) = (((d.spin.2.1 + 1) % d.here.length : Nat) : Int) := by rw [hl, Int.natCast_emod, Int.natCast_add]; rfl
      have ea : d.ask x = (⟨d.here.set d.spin.2.1 (some x), d.spin.1.set d.spin.2.1 true, (d.spin.2.1 + 1) % d.here.length, d.lacks + 1⟩, ⟨true, (d.here[d.spin.2.1]?).join, d.spin.2.2⟩) := by unfold Dl.ask; rw [if_neg e]
      rw [ea] at k
      have ht1 : H1 t = none := upd_none (upd_none (upd_none (upd_none ht)))
      have ntp : p ≠ t := ne_of_none g1 ht1
      have nta : a ≠ t := ne_of_none g2 ht1
      have ntb : b ≠ t := ne_of_none g3 ht1
      have ntq : q ≠ t := ne_of_none g4 ht1
      refine k t q _ (((((F.trans (Fr.at (by simp))).trans (Fr.at (by simp))).trans (Fr.at (by simp))).trans (Fr.at (by simp))).trans (Fr.new ht)) ⟨⟨dx, ?_⟩, ?_, ?_⟩ (F.free ht1) hq upd_same ?_
      · rw [upd_ne ntp, upd_same, em]; rfl
      · rw [upd_ne nta, upd_ne (ne_s npa), upd_ne (ne_s npa), upd_ne nab, upd_same]
      · rw [upd_ne ntb, upd_ne (ne_s npb), upd_ne (ne_s npb), upd_same]
      · rw [upd_ne ntq, upd_ne (ne_s npq), upd_ne (ne_s npq), upd_ne (ne_s nbq), upd_ne (ne_s naq)]; exact g4

/-! round_told -/
def sp_round_told (K : PySem.W.Frag) : Sp := fun vs H Q _ => ∃ (n : Int) (a : Addr) (ns : List Int), vs = [.int n, .ref a] ∧ 1 ≤ n ∧ n ≤ 8 ∧ SqL K H a (ns.map V.int) ∧ RowOk ns ∧
  ∀ p xs H', Fr [] H H' → H p = none → H' p = some (.lst xs) → NwA K H H' xs ((askAll (Dl.new n.toNat) ns).map tlD) → Q (.ref p) H'
theorem c_round_told {H : Hp} {Q : VK} {E : XK} {n : Int} {a : Addr} {ns : List Int} (n0 : 1 ≤ n) (n8 : n ≤ 8) (h : SqL K H a (ns.map V.int)) (hR : RowOk ns)
    (k : ∀ p xs H', Fr [] H H' → H p = none → H' p = some (.lst xs) → NwA K H H' xs ((askAll (Dl.new n.toNat) ns).map tlD) → Q (.ref p) H') : sp_round_told K ([.int n, .ref a] ++ []) H Q E := ⟨n, a, ns, rfl, n0, n8, h, hR, k⟩
theorem ok_round_told (T : Txt K mg ad) : FnOk P w K mg base CX0 4 ad.a_round_told ad.d_round_told ["rooms", "row"] (sp_round_told K) := by
  refine T.F_round_told.ok sc_round_told (fun vs H Q E h => ?_) (fun cdv A outer s H vs Q E hr h => ?_)
  · obtain ⟨n, a, ns, rfl, _⟩ := h
    rfl
  obtain ⟨n, a, ns, rfl, n0, n8, hS, ⟨hz, hp⟩, k⟩ := h
  refine ⟨_, (pss_cons (ps_set (i := 2) sc_round_told.nd rfl (by first | exact Or.inl rfl | exact Or.inr rfl) (pe_make T.mk_Dial (ok_Dial_init T) (hr.mono (by decide)) (by rfl) T.m_Dial T.b_Dial_init .nil pass0 (pa_cons (pv 0) pa_nil)))
    (pss_one (ps_ret (pe_lc (own := [("page", 3)]) (by rfl) sc_round_told.nd (kIL (K := K) rfl (pi_list (pv 1))) (blkOk_by (own := [("page", 3)]) (N := N_round_told) (sc := defScope s_round_told) (by decide +kernel)) (fun _ _ _ _ _ => (pg_name (i := 3) sc_round_told.nd rfl (by first | exact Or.inl rfl | exact Or.inr rfl))) (fun _ _ _ _ _ => pts_nil) (fun _ _ _ _ _ => (pe_meth (pv 2) T.cl_Dial T.mt_Dial_ask (ok_Dial_ask T) (hr.mono (by decide)) T.b_Dial_ask .nil pass0 (pa_cons (pv 3) pa_nil))))))), ?_⟩
  try dsimp only [L2.cxOf, L2.Cx.nox]
  walk_at "cwd"
  intro x dx hx hdx ndx
  refine ⟨x, dx, n, rfl, upd_same, n0, n8, fun u v H1 f1 hu hv nuv D1 => ⟨rfl, ?_⟩⟩
  have f0 : Fr [] H (upd (upd H dx (.own x)) x (.ins ad.C_Dial dx [])) := (Fr.new hdx).trans (Fr.new ((upd_ne (ne_s ndx)).trans hx))
  have F1 : Fr [] H H1 := f0.comp f1 (by simp [hx])
  have nxu : x ≠ u := ne_of_none upd_same hu
  have nxv : x ≠ v := ne_of_none upd_same hv
  obtain ⟨⟨dx1, g1⟩, g2, g3⟩ := id D1
  have hu0 : H u = none := f0.free hu
  have hv0 : H v = none := f0.free hv
  walk_at "cwd"
  refine l_list (ns.map V.int) (F1.seqL hS) (fun D i acc H' => Fr [] H H' ∧ Fr [x, u, v, D] (upd H1 D (.lst [])) H' ∧ DialAt ad.C_Dial H' x u v (endAll (Dl.new n.toNat) (ns.take i)) ∧ NwA K (upd H1 D (.lst [])) H' acc ((askAll (Dl.new n.toNat) (ns.take i)).map tlD))
    (fun D hD => ⟨F1.more (Fr.new hD), .refl, D1.keep0 (Fr.new hD), .nil⟩) (fun D i acc H' hD h _ => h.1.seqL hS) ?_ ?_
  · rintro D i y acc H' hD hi ⟨F, F2, hd, hn⟩ hacc hl
    obtain ⟨z, hz', rfl⟩ := int_at hi
    have hzl := (List.getElem?_eq_some_iff.mp hz').1
    obtain ⟨z0, z1⟩ := hp z (List.mem_of_getElem? hz')
    have W := endAll_wf (Dl.new n.toNat) (ns.take i) (Dl.Wf.new (n := n.toNat) (by omega) (by omega))
    obtain ⟨⟨dx2, k1⟩, k2, k3⟩ := id hd
    walk_at "cwd"
    refine w_methR k1 (lk_no _ _ _ _ (by decide +kernel) (by decide +kernel) (by decide +kernel) (by decide +kernel)) ?_
    walk_at "cwd"
    refine ⟨x, u, v, _, n.toNat, z, rfl, hd, W, nxu, nxv, nuv, z0, z1, fun t q H4 f4 D4 ht hq e1 e2 => ?_⟩
    have nD : D ∉ [x, u, v] := by
      simp only [List.mem_cons, List.not_mem_nil, or_false, not_or]
      exact ⟨fun e => ne_of_none g1 hD e.symm, fun e => ne_of_none g2 hD e.symm, fun e => ne_of_none g3 hD e.symm⟩
    have tk : ∀ w ∈ [x, u, v], upd H1 D (.lst []) w ≠ none := by
      intro w hw
      simp only [List.mem_cons, List.not_mem_nil, or_false] at hw
      rcases hw with rfl | rfl | rfl
      · exact ne_of_some ((upd_ne (ne_of_none g1 hD)).trans g1)
      · exact ne_of_some ((upd_ne (ne_of_none g2 hD)).trans g2)
      · exact ne_of_some ((upd_ne (ne_of_none g3 hD)).trans g3)
    have tD : upd H1 D (.lst []) D ≠ none := ne_of_some upd_same
    have ht1 := F2.free ht
    have hq1 := F2.free hq
    refine lc_end (f4.get hacc nD) hl (by omega) ⟨?_, ?_, ?_, ?_⟩
    · refine Fr.loc (F.comp f4 fun w m => ?_) (F1.free hD)
      simp only [List.mem_cons, List.not_mem_nil, or_false] at m
      rcases m with rfl | rfl | rfl
      · exact .inr hx
      · exact .inr hu0
      · exact .inr hv0
    · refine (F2.trans (f4.mono (W' := [x, u, v, D]) fun w m => ?_)).trans (Fr.at (by simp))
      simp only [List.mem_cons, List.not_mem_nil, or_false] at m ⊢
      rcases m with h | h | h <;> simp [h]
    · rw [take_snoc hz', endAll_app]
      exact D4.keep (W := [D]) (Fr.at (by simp)) (by simp; exact fun e => nD (by simp [e])) (by simp; exact fun e => nD (by simp [e])) (by simp; exact fun e => nD (by simp [e]))
    · rw [take_snoc hz', askAll_app, List.map_append]
      refine NwA.step (W := [D]) (NwA.snoc (hn.step tk f4) (nw_tl _ ht1 hq1 e1 e2)) (by simpa using tD) (Fr.at (by simp))
  · rintro D acc H' hD ⟨F, F2, hd, hn⟩ hacc hl
    rw [List.length_map, List.take_length] at hn
    exact k D acc H' F (F1.free hD) hacc ((hn.base (Fr.new hD : Fr [] H1 _)).base F1)

/-! need_rule -/
/-- the rules' names -/
def IsRule (z : Str) : Prop := z = Str.ofString "hand" ∨ z = Str.ofString "unseen" ∨ z = Str.ofString "first"
theorem rule_ne1 : ¬ (Str.ofString "unseen" = Str.ofString "hand") := by decide +kernel
theorem rule_ne2 : ¬ (Str.ofString "first" = Str.ofString "hand") := by decide +kernel
theorem rule_ne3 : ¬ (Str.ofString "first" = Str.ofString "unseen") := by decide +kernel
def sp_need_rule : Sp := fun vs H Q _ => ∃ z : Str, vs = [.str z] ∧ IsRule z ∧ Q .non H
theorem c_need_rule {H : Hp} {Q : VK} {E : XK} {z : Str} (h : IsRule z) (q : Q .non H) : sp_need_rule ([.str z] ++ []) H Q E := ⟨z, rfl, h, q⟩
theorem ok_need_rule (T : Txt K mg ad) : FnOk P w K mg base CX0 1 ad.a_need_rule ad.d_need_rule ["rule"] sp_need_rule := by
  refine T.F_need_rule.ok sc_need_rule (fun vs H Q E h => ?_) (fun cdv A outer s H vs Q E hr h => ?_)
  · obtain ⟨z, rfl, _⟩ := h
    rfl
  obtain ⟨z, rfl, hz, q⟩ := h
  refine ⟨_, (pss_one (ps_if (pt_cmpR (kNi K rfl) (pv 0) (pe_glob (v := .ref ad.a_RULES) rfl T.m_RULES rfl) (by with_unfolding_all rfl)) (pss_one ps_never) pss_nil)), ?_⟩
  try dsimp only [L2.cxOf, L2.Cx.nox]
  obtain ⟨xs, hx, hT⟩ := T.k_RULES
  walk_at "cw"
  refine ⟨ad.a_RULES, xs, rfl, .inr (hT H), rfl, by rw [hx]; rfl, ?_⟩
  have e : inV (.str z) xs = true := by
    rw [hx]
    rcases hz with rfl | rfl | rfl <;> simp [inV, eqV]
  rw [if_pos rfl, e]
  walk_at "cw"
  exact q

/-! by_row -/
def sp_by_row (K : PySem.W.Frag) : Sp := fun vs H Q _ => ∃ (n : Int) (a : Addr) (z : Str) (ns : List Int), vs = [.int n, .ref a, .str z] ∧ 1 ≤ n ∧ n ≤ 8 ∧ SqL K H a (ns.map V.int) ∧ ns.length ≤ 100 ∧
  ∀ p H', Fr [] H H' → H p = none → H' p = some (.lst ((keepAll n.toNat (decide (z = Str.ofString "unseen")) [] ns).map V.bl)) → Q (.ref p) H'
theorem c_by_row {H : Hp} {Q : VK} {E : XK} {n : Int} {a : Addr} {z : Str} {ns : List Int} (n0 : 1 ≤ n) (n8 : n ≤ 8) (h : SqL K H a (ns.map V.int)) (hz : ns.length ≤ 100)
    (k : ∀ p H', Fr [] H H' → H p = none → H' p = some (.lst ((keepAll n.toNat (decide (z = Str.ofString "unseen")) [] ns).map V.bl)) → Q (.ref p) H') : sp_by_row K ([.int n, .ref a, .str z] ++ []) H Q E := ⟨n, a, z, ns, rfl, n0, n8, h, hz, k⟩
def byRow_mid (H0 : Hp) (n : Int) (a : Addr) (z : Str) (f : Addr) (x : Int) (bs : List Bool) (kept : List Int) : L2.St → Hp → Prop := fun σ H => ∃ kp, σ = [some (.int n), some (.ref a), some (.str z), some (.ref kp), some (.ref f), some (.int x)] ∧
  Fr [] H0 H ∧ H0 kp = none ∧ kp ≠ f ∧ H kp = some (.lst (kept.map V.int)) ∧ H f = some (.lst (bs.map V.bl))
theorem ok_by_row (T : Txt K mg ad) : FnOk P w K mg base CX0 1 ad.a_by_row ad.d_by_row ["rooms", "row", "rule"] (sp_by_row K) := by
  refine T.F_by_row.ok sc_by_row (fun vs H Q E h => ?_) (fun cdv A outer s H vs Q E hr h => ?_)
  · obtain ⟨n, a, z, ns, rfl, _⟩ := h
    rfl
  obtain ⟨n, a, z, ns, rfl, n0, n8, hS, hz, k⟩ := h
  refine ⟨_, (pss_cons (ps_set (i := 3) sc_by_row.nd rfl (by first | exact Or.inl rfl | exact Or.inr rfl) (pe_lst pa_nil))
    (pss_cons (ps_set (i := 4) sc_by_row.nd rfl (by first | exact Or.inl rfl | exact Or.inr rfl) (pe_lst pa_nil))
    (pss_cons (ps_for PassesOwn.never rfl (kIL (K := K) rfl (pi_list (pv 1))) (pg_name (i := 5) sc_by_row.nd rfl (by first | exact Or.inl rfl | exact Or.inr rfl)) (pss_cons (ps_expr (kBM (K := K) rfl (pe_bm PySem.F.plainAttrs_list PySem.F.slot_list_append PySem.F.type_list_append mt_append (pv 4) (pa_cons (pe_cmpR (kNi K rfl) (pv 5) (pv 3) (by with_unfolding_all rfl)) pa_nil))))
    (C8.pss_cut (ps_if (PW.pt (pw_and (pt_cmpR (kIn K rfl) (pv 5) (pv 3) (by with_unfolding_all rfl)) (pw_and1 (pt_cmpR op_eq (pv 2) (pe_glob (v := .str (Str.ofString "unseen")) rfl T.m_UNSEEN ⟨_, rfl⟩) (nomark _))))) (pss_cons (ps_expr (kBM (K := K) rfl (pe_bm PySem.F.plainAttrs_list PySem.F.slot_list_remove PySem.F.type_list_remove mt_remove (pv 3) (pa_cons (pv 5) pa_nil))))
    (pss_one (ps_expr (kBM (K := K) rfl (pe_bm PySem.F.plainAttrs_list PySem.F.slot_list_append PySem.F.type_list_append mt_append (pv 3) (pa_cons (pv 5) pa_nil)))))) pss_nil)
    (pss_one (ps_if (pt_cmpR (kNi K rfl) (pv 5) (pv 3) (by with_unfolding_all rfl)) (pss_one (ps_set (i := 3) sc_by_row.nd rfl (by first | exact Or.inl rfl | exact Or.inr rfl) (pe_slice (kSlL K rfl) (pe_op op_cat (pv 3) (pe_lst (pa_cons (pv 5) pa_nil))) (po_some (pe_un un_neg (pv 0))) po_none))) pss_nil)))))
    (pss_one (ps_ret (pv 4)))))), ?_⟩
  try dsimp only [L2.cxOf, L2.Cx.nox]
  walk_at "cwd"
  rename_i kp hkp f hf
  have hf0 : H f = none := upd_none hf
  have nkf : kp ≠ f := ne_of_none upd_same hf
  refine f_list (ns.map V.int) (fun i σ H' => ∃ (kp : Addr) (v : Option V), σ = [some (.int n), some (.ref a), some (.str z), some (.ref kp), some (.ref f), v] ∧ Fr [] H H' ∧ H kp = none ∧ kp ≠ f ∧
    H' kp = some (.lst ((keepEnd n.toNat (decide (z = Str.ofString "unseen")) [] (ns.take i)).map V.int)) ∧ H' f = some (.lst ((keepAll n.toNat (decide (z = Str.ofString "unseen")) [] (ns.take i)).map V.bl)))
    ⟨kp, none, rfl, (Fr.new hkp).trans (Fr.new hf), hkp, nkf, (upd_ne nkf).trans upd_same, upd_same⟩ (fun i σ H' _ ⟨_, _, _, f, _⟩ => f.seqL hS) ?_ ?_
  · rintro i y σ H' hi ⟨kp, v, rfl, F, hkp, nkf, h1, h2⟩
    obtain ⟨x, hx, rfl⟩ := int_at hi
    have hxl := (List.getElem?_eq_some_iff.mp hx).1
    have hk := keepEnd_ok (rooms := n.toNat) (by omega) (decide (z = Str.ofString "unseen")) [] (ns.take i) ⟨List.nodup_nil, Nat.zero_le _⟩
    have hbl : (keepAll n.toNat (decide (z = Str.ofString "unseen")) [] (ns.take i)).length = i := by rw [keepAll_len, List.length_take]; omega
    have est : keepEnd n.toNat (decide (z = Str.ofString "unseen")) [] (ns.take (i + 1)) = keepS n.toNat (decide (z = Str.ofString "unseen")) (keepEnd n.toNat (decide (z = Str.ofString "unseen")) [] (ns.take i)) x := by
      rw [take_snoc hx, keepEnd_app]; rfl
    have ebs : keepAll n.toNat (decide (z = Str.ofString "unseen")) [] (ns.take (i + 1)) = keepAll n.toNat (decide (z = Str.ofString "unseen")) [] (ns.take i) ++ [decide (x ∉ keepEnd n.toNat (decide (z = Str.ofString "unseen")) [] (ns.take i))] := by
      rw [take_snoc hx, keepAll_app]; rfl
    rw [est, ebs]
    generalize keepEnd n.toNat (decide (z = Str.ofString "unseen")) [] (ns.take i) = kept at *
    generalize keepAll n.toNat (decide (z = Str.ofString "unseen")) [] (ns.take i) = bs at *
    obtain ⟨nd, le⟩ := hk
    walk_at "cwd"
    refine w_cut (byRow_mid H n a z f x (bs ++ [decide (x ∉ kept)]) (if x ∈ kept then keepS n.toNat (decide (z = Str.ofString "unseen")) kept x else kept)) ?_ ?_
    · walk_at "cwd"
      walk_at "cw if" <;> intro e
      · walk_at "cwd"
        walk_at "cw if" <;> intro e2
        · walk_at "cwd"
          refine w_remI (by walk_at "cw at") e ?_
          have hle := List.length_erase_of_mem e
          walk_at "cwd"
          rw [upd_upd]
          refine ⟨kp, rfl, (F.loc hf0).loc hkp, hkp, nkf, upd_same.trans ?_, (upd_ne (ne_s nkf)).trans (upd_same.trans (by simp))⟩
          rw [if_pos e]
          unfold keepS
          rw [if_pos e, decide_eq_true e2]
          simp
        · walk_at "cwd"
          refine ⟨kp, rfl, F.loc hf0, hkp, nkf, (upd_ne nkf).trans (h1.trans ?_), upd_same.trans (by simp)⟩
          rw [if_pos e]
          unfold keepS
          rw [if_pos e, decide_eq_false e2]
          simp
      · walk_at "cwd"
        exact ⟨kp, rfl, F.loc hf0, hkp, nkf, (upd_ne nkf).trans (h1.trans (by rw [if_neg e])), upd_same.trans (by simp)⟩
    rintro σ H2 ⟨kq, rfl, F2, hkq, nkq, g1, g2⟩
    by_cases e : x ∈ kept
    · rw [if_pos e] at g1
      have e' : x ∈ keepS n.toNat (decide (z = Str.ofString "unseen")) kept x := by
        unfold keepS
        rw [if_pos e]
        split
        · simp
        · exact e
      walk_at "cwd"
      refine ite_dF (fun q => q e') ?_
      walk_at "cwd"
      exact ⟨kq, _, rfl, F2, hkq, nkq, g1, g2⟩
    · rw [if_neg e] at g1
      walk_at "cwd"
      rename_i p1 hp1 p2 hp2 p3 hp3
      have hp3' : H2 p3 = none := upd_none (upd_none hp3)
      refine ⟨p3, _, rfl, ((F2.more (Fr.new hp1)).more (Fr.new hp2)).more (Fr.new hp3), F2.free hp3', fun q => ne_of_none g2 hp3' q.symm, upd_same.trans ?_, ?_⟩
      · rw [cut_last _ (by omega)]
        have el : kept.map V.int ++ [V.int x] = (kept ++ [x]).map V.int := by simp
        rw [el, ← List.map_drop, List.length_map]
        unfold keepS
        rw [if_neg e]
        congr 3
        rw [List.length_append, List.drop_append_of_le_length]
        · congr 2
          simp
          split <;> omega
        · simp
          omega
      · rw [upd_ne (ne_of_none g2 hp3'), upd_ne (ne_of_none g2 (upd_none hp2)), upd_ne (ne_of_none g2 hp1)]
        exact g2
  · rintro σ H' ⟨kp, v, rfl, F, hkp, nkf, h1, h2⟩
    rw [List.length_map, List.take_length] at h2
    walk_at "cwd"
    exact k f H' F hf0 h2

/-! all_lacking -/
def sp_all_lacking (K : PySem.W.Frag) : Sp := fun vs H Q _ => ∃ (n : Int) (a : Addr) (z : Str) (ns : List Int), vs = [.int n, .ref a, .str z] ∧ 1 ≤ n ∧ n ≤ 8 ∧ SqL K H a (ns.map V.int) ∧ RowOk ns ∧
  ∀ p H', Fr [] H H' → H p = none → H' p = some (.lst ((lackB n.toNat z ns).map V.bl)) → Q (.ref p) H'
theorem c_all_lacking {H : Hp} {Q : VK} {E : XK} {n : Int} {a : Addr} {z : Str} {ns : List Int} (n0 : 1 ≤ n) (n8 : n ≤ 8) (h : SqL K H a (ns.map V.int)) (hR : RowOk ns)
    (k : ∀ p H', Fr [] H H' → H p = none → H' p = some (.lst ((lackB n.toNat z ns).map V.bl)) → Q (.ref p) H') : sp_all_lacking K ([.int n, .ref a, .str z] ++ []) H Q E := ⟨n, a, z, ns, rfl, n0, n8, h, hR, k⟩
theorem ok_all_lacking (T : Txt K mg ad) : FnOk P w K mg base CX0 5 ad.a_all_lacking ad.d_all_lacking ["rooms", "row", "rule"] (sp_all_lacking K) := by
  refine T.F_all_lacking.ok sc_all_lacking (fun vs H Q E h => ?_) (fun cdv A outer s H vs Q E hr h => ?_)
  · obtain ⟨n, a, z, ns, rfl, _⟩ := h
    rfl
  obtain ⟨n, a, z, ns, rfl, n0, n8, hS, hR, k⟩ := h
  unfold lackB at k
  refine ⟨_, (pss_cons (ps_if (pt_cmpR op_eq (pv 2) (pe_glob (v := .str (Str.ofString "hand")) rfl T.m_HAND ⟨_, rfl⟩) (nomark _)) (pss_one (ps_ret (pe_lc (own := [("one", 3)]) (by rfl) sc_all_lacking.nd (kIL (K := K) rfl (pi_list (pe_call (ok_round_told T) (hr.mono (by decide)) (by rfl) T.m_round_told T.F_round_told.kp T.b_round_told .nil pass0 (pa_cons (pv 0) (pa_cons (pv 1) pa_nil))))) (blkOk_by (own := [("one", 3)]) (N := N_all_lacking) (sc := defScope s_all_lacking) (by decide +kernel)) (fun _ _ _ _ _ => (pg_name (i := 3) sc_all_lacking.nd rfl (by first | exact Or.inl rfl | exact Or.inr rfl))) (fun _ _ _ _ _ => pts_nil) (fun _ _ _ _ _ => (pe_ix (kIxT K rfl) (pv 3) pe_int (fun _ _ => rfl)))))) pss_nil)
    (pss_one (ps_ret (pe_call (ok_by_row T) (hr.mono (by decide)) (by rfl) T.m_by_row T.F_by_row.kp T.b_by_row .nil pass0 (pa_cons (pv 0) (pa_cons (pv 1) (pa_cons (pv 2) pa_nil))))))), ?_⟩
  try dsimp only [L2.cxOf, L2.Cx.nox]
  walk_at "cwd"
  walk_at "cw if" <;> intro e
  · rw [if_pos e] at k
    walk_at "cwd"
    refine c_round_told n0 n8 hS hR fun p xs H1 f1 hp hx hn => ?_
    walk_at "cwd"
    have hlen := dpall_len hn.now
    refine l_list xs (SqL.of hx) (fun D i acc H' => Fr [] H1 H' ∧ acc = (((askAll (Dl.new n.toNat) ns).map Tl.lack).take i).map V.bl) (fun D hD => ⟨Fr.new hD, rfl⟩) (fun D i acc H' hD h _ => h.1.seqL (SqL.of hx)) ?_ ?_
    · rintro D i y acc H' hD hi ⟨F, rfl⟩ hacc hl
      have hil := (List.getElem?_eq_some_iff.mp hi).1
      rw [hlen, List.length_map] at hil
      have hd : ((askAll (Dl.new n.toNat) ns).map tlD)[i]? = some (tlD (askAll (Dl.new n.toNat) ns)[i]) := by rw [List.getElem?_map, List.getElem?_eq_getElem hil]; rfl
      obtain ⟨y', hy, hdp⟩ := dpall_get hn.now hd
      rw [hi] at hy
      cases hy
      have hdp' := F.dp _ _ hdp
      unfold tlD at hdp'
      cases hdp' with
      | @tup t zs _ hsq hza =>
      cases hza with
      | @cons v1 vr _ _ hv1 hvr =>
      cases hv1
      have hb : ((askAll (Dl.new n.toNat) ns).map Tl.lack)[i]? = some (askAll (Dl.new n.toNat) ns)[i].lack := by rw [List.getElem?_map, List.getElem?_eq_getElem hil]; rfl
      walk_at "cwd"
      have hr100 := hR.1
      rw [askAll_len] at hil
      exact lc_end hacc hl (by omega) ⟨F.loc hD, by rw [take_snoc hb, List.map_append]; rfl⟩
    · rintro D acc H' hD ⟨F, rfl⟩ hacc hl
      rw [List.take_of_length_le (by rw [hlen, List.length_map, List.length_map]; omega)] at hacc
      exact k D H' (f1.trans F) (f1.free hD) hacc
  · rw [if_neg e] at k
    walk_at "cwd"
    exact c_by_row n0 n8 hS hR.1 k

/-! all_stretches -/
def sp_all_stretches (K : PySem.W.Frag) : Sp := fun vs H Q _ => ∃ (n : Int) (a : Addr) (ns : List Int), vs = [.int n, .ref a] ∧ 1 ≤ n ∧ n ≤ 8 ∧ SqL K H a (ns.map V.int) ∧ ns.length ≤ 100 ∧
  ∀ p xs H', Fr [] H H' → H p = none → H' p = some (.lst xs) → NwA K H H' xs ((parts n.toNat ns).map pairD) → Q (.ref p) H'
theorem c_all_stretches {H : Hp} {Q : VK} {E : XK} {n : Int} {a : Addr} {ns : List Int} (n0 : 1 ≤ n) (n8 : n ≤ 8) (h : SqL K H a (ns.map V.int)) (hl : ns.length ≤ 100)
    (k : ∀ p xs H', Fr [] H H' → H p = none → H' p = some (.lst xs) → NwA K H H' xs ((parts n.toNat ns).map pairD) → Q (.ref p) H') : sp_all_stretches K ([.int n, .ref a] ++ []) H Q E := ⟨n, a, ns, rfl, n0, n8, h, hl, k⟩
/-- what is found ahead of a turn -/
def strAt (n : Nat) (ns : List Int) (i : Nat) : List (Int × Int) × Int := if i < ns.length then ((cst n (ns.take (i + 1))).out, ((cst n (ns.take (i + 1))).b : Int)) else (parts n ns, (ns.length : Int))
theorem ok_all_stretches (T : Txt K mg ad) : FnOk P w K mg base CX0 1 ad.a_all_stretches ad.d_all_stretches ["rooms", "row"] (sp_all_stretches K) := by
  refine T.F_all_stretches.ok sc_all_stretches (fun vs H Q E h => ?_) (fun cdv A outer s H vs Q E hr h => ?_)
  · obtain ⟨n, a, ns, rfl, _⟩ := h
    rfl
  obtain ⟨n, a, ns, rfl, n0, n8, hS, hl, k⟩ := h
  refine ⟨_, (pss_cons (ps_set (i := 2) sc_all_stretches.nd rfl (by first | exact Or.inl rfl | exact Or.inr rfl) (pe_lst pa_nil))
    (pss_cons (ps_set (i := 3) sc_all_stretches.nd rfl (by first | exact Or.inl rfl | exact Or.inr rfl) pe_int)
    (pss_cons (ps_for PassesOwn.never rfl (pi_range2 (by rfl) T.z_range (pa_cons pe_int (pa_cons (pe_op op_add (pe_callB (kLen K rfl) (by rfl) T.z_len (by decide +kernel) (pa_cons (pv 1) pa_nil)) pe_int) pa_nil))) (pg_name (i := 4) sc_all_stretches.nd rfl (by first | exact Or.inl rfl | exact Or.inr rfl)) (pss_one (ps_if (PW.pt (pw_or (pt_cmpR op_eq (pv 4) (pe_callB (kLen K rfl) (by rfl) T.z_len (by decide +kernel) (pa_cons (pv 1) pa_nil)) (nomark _)) (pw_or1 (pt_cmpR op_gt (pe_lenSetD (K := K) rfl (by rfl) T.z_len (by rfl) T.z_set (pe_slice (kSlL K rfl) (pv 1) (po_some (pv 3)) (po_some (pe_op op_add (pv 4) pe_int)))) (pv 0) (nomark _))))) (pss_cons (ps_expr (kBM (K := K) rfl (pe_bm PySem.F.plainAttrs_list PySem.F.slot_list_append PySem.F.type_list_append mt_append (pv 2) (pa_cons (pe_tup (pa_cons (pv 3) (pa_cons (pv 4) pa_nil))) pa_nil))))
    (pss_one (ps_set (i := 3) sc_all_stretches.nd rfl (by first | exact Or.inl rfl | exact Or.inr rfl) (pv 4)))) pss_nil)))
    (pss_one (ps_ret (pv 2)))))), ?_⟩
  walk_at "cws"
  rename_i f hf
  have hml : (ns.map V.int).length = ns.length := List.length_map _
  generalize hE : upd H f (.lst []) = H1
  have F1 : Fr [] H H1 := hE ▸ Fr.new hf
  have h1 : H1 f = some (.lst []) := hE ▸ upd_same
  clear hE
  have tk : ∀ w ∈ [f], H1 w ≠ none := by simp [h1]
  refine f_rng2 (lo := 1) (hi := ((ns.map V.int).length : Int) + 1) (by decide) (by decide) (by omega) (by omega) (fun i σ H' => ∃ (v : Option V) (xs : List V), σ = [some (.int n), some (.ref a), some (.ref f), some (.int (strAt n.toNat ns i).2), v] ∧ Fr [] H H' ∧ Fr [f] H1 H' ∧
    H' f = some (.lst xs) ∧ xs.length ≤ i ∧ NwA K H1 H' xs ((strAt n.toNat ns i).1.map pairD)) ⟨none, [], ?_, F1, .refl, h1, Nat.le_refl _, ?_⟩ ?_ ?_
  · unfold strAt
    split
    · rename_i hp
      have : (cst n.toNat (ns.take (0 + 1))).b = 0 := by
        cases ns with
        | nil => simp at hp
        | cons x r =>
          have e : cst n.toNat ((x :: r).take (0 + 1)) = cstep n.toNat ⟨[], 0, [], 0⟩ x := rfl
          rw [e]
          unfold cstep
          split <;> rfl
      rw [this]; rfl
    · rename_i hp
      have : ns = [] := List.eq_nil_of_length_eq_zero (by omega)
      subst this
      rfl
  · unfold strAt
    split
    · rename_i hp
      have : (cst n.toNat (ns.take (0 + 1))).out = [] := by
        cases ns with
        | nil => simp at hp
        | cons x r =>
          have e : cst n.toNat ((x :: r).take (0 + 1)) = cstep n.toNat ⟨[], 0, [], 0⟩ x := rfl
          rw [e]
          unfold cstep
          rw [if_neg (by simp [firsts]; omega)]
      rw [this]; exact .nil
    · rename_i hp
      have : ns = [] := List.eq_nil_of_length_eq_zero (by omega)
      subst this
      exact .nil
  · rintro i σ H2 hi ⟨v, xs, rfl, F, F2, g1, gl, gn⟩
    have hil : i < ns.length := by omega
    have hsq := F.seqL hS
    have eS : strAt n.toNat ns i = ((cst n.toNat (ns.take (i + 1))).out, ((cst n.toNat (ns.take (i + 1))).b : Int)) := if_pos hil
    rw [eS] at gn ⊢
    have hok := cst_ok (rooms := n.toNat) (by omega) (ns.take (i + 1))
    obtain ⟨c1, c2, c3, c4, c5, c6, c7⟩ := hok
    -- a stretch is told
    have app : ∀ H2 : Hp, Fr [] H H2 → Fr [f] H1 H2 → H2 f = some (.lst xs) → NwA K H1 H2 xs ((cst n.toNat (ns.take (i + 1))).out.map pairD) → ∀ p, H2 p = none → ∀ (v' : Option V) (q : Int) (nb : Int) (out' : List (Int × Int)), q = 1 + (i : Int) → strAt n.toNat ns (i + 1) = (out', nb) → out' = (cst n.toNat (ns.take (i + 1))).out ++ [(((cst n.toNat (ns.take (i + 1))).b : Int), q)] →
        ∃ (v : Option V) (ys : List V), [some (V.int n), some (.ref a), some (.ref f), some (.int nb), v'] = [some (.int n), some (.ref a), some (.ref f), some (.int (strAt n.toNat ns (i + 1)).2), v] ∧
          Fr [] H (upd (upd H2 p (.tup [.int (cst n.toNat (ns.take (i + 1))).b, .int q])) f (.lst (xs ++ [.ref p]))) ∧ Fr [f] H1 (upd (upd H2 p (.tup [.int (cst n.toNat (ns.take (i + 1))).b, .int q])) f (.lst (xs ++ [.ref p]))) ∧
          (upd (upd H2 p (.tup [.int (cst n.toNat (ns.take (i + 1))).b, .int q])) f (.lst (xs ++ [.ref p]))) f = some (.lst ys) ∧ ys.length ≤ i + 1 ∧ NwA K H1 (upd (upd H2 p (.tup [.int (cst n.toNat (ns.take (i + 1))).b, .int q])) f (.lst (xs ++ [.ref p]))) ys ((strAt n.toNat ns (i + 1)).1.map pairD) := by
      intro H2 F F2 g1 gn p hp v' q nb out' hq e1 e2
      have npf : p ≠ f := ne_s (ne_of_none g1 hp)
      rw [e1]
      refine ⟨v', xs ++ [.ref p], rfl, (F.more (Fr.new hp)).loc hf, (F2.trans (Fr.new hp)).trans (Fr.at (by simp)), upd_same, by simp; omega, ?_⟩
      show NwA K H1 _ _ (out'.map pairD)
      rw [e2, List.map_append]
      exact NwA.step (W := [f]) (NwA.snoc (gn.step (W := []) (by simp) (Fr.new hp)) (nw_pair (F2.free hp) upd_same)) tk (Fr.at (by simp))
    have ht100 : ((ns.take (i + 2)).drop (cst n.toNat (ns.take (i + 1))).b).length ≤ 4000 := by simp; omega
    walk_at "cws"
    walk_at "cw if" <;> intro e
    · walk_at "cws"
      rename_i p hp
      have hne : ns ≠ [] := by intro z; subst z; simp at hil
      have htk : ns.take (i + 1) = ns := List.take_of_length_le (by omega)
      refine app H2 F F2 g1 gn p hp _ (1 + (i : Int)) (1 + (i : Int)) (parts n.toNat ns) rfl ?_ ?_
      · unfold strAt
        rw [if_neg (by omega)]
        rw [show (ns.length : Int) = 1 + (i : Int) by omega]
      · unfold parts
        rw [if_neg hne, htk, show (ns.length : Int) = 1 + (i : Int) by omega]
    · have hi2 : i + 1 < ns.length := by omega
      obtain ⟨x, hx⟩ : ∃ x, ns[i + 1]? = some x := ⟨ns[i + 1], List.getElem?_eq_getElem hi2⟩
      have e2 : ns.take (i + 2) = ns.take (i + 1) ++ [x] := take_snoc hx
      have eT : strAt n.toNat ns (i + 1) = ((cst n.toNat (ns.take (i + 2))).out, ((cst n.toNat (ns.take (i + 2))).b : Int)) := if_pos hi2
      have cl : (ns.take (i + 1)).length = i + 1 := by rw [List.length_take]; omega
      rw [cl] at c1
      have eseg : (ns.take (i + 2)).drop (cst n.toNat (ns.take (i + 1))).b = (cst n.toNat (ns.take (i + 1))).seg ++ [x] := by
        rw [e2, List.drop_append_of_le_length (by omega), c3]
      walk_at "cws"
      rename_i p hp
      refine ⟨p, (ns.take (i + 2)).drop (cst n.toNat (ns.take (i + 1))).b, rfl, SqL.of (upd_same.trans ?_), ht100, ?_⟩
      · rw [show 1 + (i : Int) + 1 = ((i + 2 : Nat) : Int) by omega]
        show some (HO.lst (cutV _ (some (((cst n.toNat (ns.take (i + 1))).b : Nat) : Int)) _)) = _
        rw [cut_ints]
      rw [eseg]
      have ov := over_rooms (rooms := n.toNat) (x := x) c4
      have hnn : ((n.toNat : Nat) : Int) = n := by omega
      rw [hnn] at ov
      walk_at "cws"
      have npf : f ≠ p := ne_of_none g1 hp
      have F' := F.more (Fr.new hp (o := .lst (cutV (ns.map V.int) (some ((cst n.toNat (ns.take (i + 1))).b : Int)) (some (1 + (i : Int) + 1)))))
      walk_at "cw if" <;> intro e3
      · have o := ov.mp e3
        have est : cst n.toNat (ns.take (i + 2)) = ⟨(cst n.toNat (ns.take (i + 1))).out ++ [(((cst n.toNat (ns.take (i + 1))).b : Int), ((cst n.toNat (ns.take (i + 1))).n : Int))], (cst n.toNat (ns.take (i + 1))).n, [x], (cst n.toNat (ns.take (i + 1))).n + 1⟩ := by
          rw [e2, cst_snoc]
          unfold cstep
          rw [if_pos o]
        walk_at "cws"
        rename_i p3 hp3
        refine app _ F' (F2.trans (Fr.new hp)) ((upd_ne npf).trans g1) (gn.step (W := []) (by simp) (Fr.new hp)) p3 hp3 _ (1 + (i : Int)) (1 + (i : Int)) (cst n.toNat (ns.take (i + 2))).out rfl ?_ ?_
        · rw [eT, est, c1]
          show (_, (((i + 1 : Nat) : Int))) = _
          rw [show ((i + 1 : Nat) : Int) = 1 + (i : Int) by omega]
        · rw [est, c1]
          show _ ++ [(_, (((i + 1 : Nat) : Int)))] = _
          rw [show ((i + 1 : Nat) : Int) = 1 + (i : Int) by omega]
      · have o := fun z => e3 (ov.mpr z)
        have est : cst n.toNat (ns.take (i + 2)) = ⟨(cst n.toNat (ns.take (i + 1))).out, (cst n.toNat (ns.take (i + 1))).b, (cst n.toNat (ns.take (i + 1))).seg ++ [x], (cst n.toNat (ns.take (i + 1))).n + 1⟩ := by
          rw [e2, cst_snoc]
          unfold cstep
          rw [if_neg o]
        walk_at "cws"
        rw [eT, est]
        exact ⟨_, xs, rfl, F', F2.trans (Fr.new hp), (upd_ne npf).trans g1, by omega, gn.step (W := []) (by simp) (Fr.new hp)⟩
  · rintro σ H2 ⟨v, xs, rfl, F, F2, g1, gl, gn⟩
    have eS : strAt n.toNat ns (((ns.map V.int).length : Int) + 1 - 1).toNat = (parts n.toNat ns, (ns.length : Int)) := if_neg (by omega)
    rw [eS] at gn ⊢
    walk_at "cws"
    exact k f xs H2 F hf g1 (gn.base F1)

/-! stretches -/
def sp_stretches (K : PySem.W.Frag) : Sp := fun vs H Q _ => ∃ (n : Int) (a : Addr) (ns : List Int), vs = [.int n, .ref a] ∧ 1 ≤ n ∧ n ≤ 8 ∧ SqL K H a (ns.map V.int) ∧ RowOk ns ∧
  ∀ p xs H', Fr [] H H' → H p = none → H' p = some (.lst xs) → NwA K H H' xs ((parts n.toNat ns).map pairD) → Q (.ref p) H'
theorem c_stretches {H : Hp} {Q : VK} {E : XK} {n : Int} {a : Addr} {ns : List Int} (n0 : 1 ≤ n) (n8 : n ≤ 8) (h : SqL K H a (ns.map V.int)) (hR : RowOk ns)
    (k : ∀ p xs H', Fr [] H H' → H p = none → H' p = some (.lst xs) → NwA K H H' xs ((parts n.toNat ns).map pairD) → Q (.ref p) H') : sp_stretches K ([.int n, .ref a] ++ []) H Q E := ⟨n, a, ns, rfl, n0, n8, h, hR, k⟩
theorem ok_stretches (T : Txt K mg ad) : FnOk P w K mg base CX0 4 ad.a_stretches ad.d_stretches ["rooms", "row"] (sp_stretches K) := by
  refine T.F_stretches.ok sc_stretches (fun vs H Q E h => ?_) (fun cdv A outer s H vs Q E hr h => ?_)
  · obtain ⟨n, a, ns, rfl, _⟩ := h
    rfl
  obtain ⟨n, a, ns, rfl, n0, n8, hS, hR, k⟩ := h
  refine ⟨_, (pss_cons (ps_expr (pe_call (ok_need_both T) (hr.mono (by decide)) (by rfl) T.m_need_both T.F_need_both.kp T.b_need_both .nil pass0 (pa_cons (pv 0) (pa_cons (pv 1) pa_nil))))
    (pss_one (ps_ret (pe_call (ok_all_stretches T) (hr.mono (by decide)) (by rfl) T.m_all_stretches T.F_all_stretches.kp T.b_all_stretches .nil pass0 (pa_cons (pv 0) (pa_cons (pv 1) pa_nil)))))), ?_⟩
  walk_at "cws"
  refine c_need_both n0 n8 hS hR fun H1 f1 => ?_
  walk_at "cws"
  refine c_all_stretches n0 n8 (f1.seqL hS) hR.1 fun p xs H2 f2 hp hx hn => ?_
  exact k p xs H2 (f1.trans f2) (f1.free hp) hx (hn.base f1)

/-! lacking_in -/
def sp_lacking_in (K : PySem.W.Frag) : Sp := fun vs H Q _ => ∃ (n : Int) (a : Addr) (z : Str) (ns : List Int), vs = [.int n, .ref a, .str z] ∧ 1 ≤ n ∧ n ≤ 8 ∧ IsRule z ∧ SqL K H a (ns.map V.int) ∧ RowOk ns ∧
  ∀ p H', Fr [] H H' → H p = none → H' p = some (.lst ((counts (lackB n.toNat z ns) (parts n.toNat ns)).map V.int)) → Q (.ref p) H'
theorem c_lacking_in {H : Hp} {Q : VK} {E : XK} {n : Int} {a : Addr} {z : Str} {ns : List Int} (n0 : 1 ≤ n) (n8 : n ≤ 8) (hz : IsRule z) (h : SqL K H a (ns.map V.int)) (hR : RowOk ns)
    (k : ∀ p H', Fr [] H H' → H p = none → H' p = some (.lst ((counts (lackB n.toNat z ns) (parts n.toNat ns)).map V.int)) → Q (.ref p) H') : sp_lacking_in K ([.int n, .ref a, .str z] ++ []) H Q E := ⟨n, a, z, ns, rfl, n0, n8, hz, h, hR, k⟩
theorem ok_lacking_in (T : Txt K mg ad) : FnOk P w K mg base CX0 6 ad.a_lacking_in ad.d_lacking_in ["rooms", "row", "rule"] (sp_lacking_in K) := by
  refine T.F_lacking_in.ok sc_lacking_in (fun vs H Q E h => ?_) (fun cdv A outer s H vs Q E hr h => ?_)
  · obtain ⟨n, a, z, ns, rfl, _⟩ := h
    rfl
  obtain ⟨n, a, z, ns, rfl, n0, n8, hz, hS, hR, k⟩ := h
  refine ⟨_, (pss_cons (ps_expr (pe_call (ok_need_both T) (hr.mono (by decide)) (by rfl) T.m_need_both T.F_need_both.kp T.b_need_both .nil pass0 (pa_cons (pv 0) (pa_cons (pv 1) pa_nil))))
    (pss_cons (ps_expr (pe_call (ok_need_rule T) (hr.mono (by decide)) (by rfl) T.m_need_rule T.F_need_rule.kp T.b_need_rule .nil pass0 (pa_cons (pv 2) pa_nil)))
    (pss_cons (ps_set (i := 3) sc_lacking_in.nd rfl (by first | exact Or.inl rfl | exact Or.inr rfl) (pe_call (ok_all_lacking T) (hr.mono (by decide)) (by rfl) T.m_all_lacking T.F_all_lacking.kp T.b_all_lacking .nil pass0 (pa_cons (pv 0) (pa_cons (pv 1) (pa_cons (pv 2) pa_nil)))))
    (pss_one (ps_ret (pe_lc (own := [("begin", 4), ("end", 5)]) (by rfl) sc_lacking_in.nd (kIL (K := K) rfl (pi_list (pe_call (ok_all_stretches T) (hr.mono (by decide)) (by rfl) T.m_all_stretches T.F_all_stretches.kp T.b_all_stretches .nil pass0 (pa_cons (pv 0) (pa_cons (pv 1) pa_nil))))) (blkOk_by (own := [("begin", 4), ("end", 5)]) (N := N_lacking_in) (sc := defScope s_lacking_in) (by decide +kernel)) (fun _ _ _ _ _ => (kTup (K := K) (n := 2) rfl (pg_tup (by rfl) (pgs_cons (pg_name (i := 4) sc_lacking_in.nd rfl (by first | exact Or.inl rfl | exact Or.inr rfl)) (pgs_cons (pg_name (i := 5) sc_lacking_in.nd rfl (by first | exact Or.inl rfl | exact Or.inr rfl)) pgs_nil))))) (fun _ _ _ _ _ => pts_nil) (fun _ _ _ _ _ => (pe_callB (kLen K rfl) (by rfl) T.z_len (by decide +kernel) (pa_cons (pe_lc (own := [("place", 6)]) (by rfl) sc_lacking_in.nd (pi_range2 (by rfl) T.z_range (pa_cons (pv 4) (pa_cons (pv 5) pa_nil))) (blkOk_by (own := [("place", 6)]) (N := N_lacking_in) (sc := (relS { kind := PySem.ScopeKind.function, names := [ (PySem.Str.ofString ".0", PySem.NameKind.local), (PySem.Str.ofString "begin", PySem.NameKind.local), (PySem.Str.ofString "end", PySem.NameKind.local), (PySem.Str.ofString "len", PySem.NameKind.globalImplicit), (PySem.Str.ofString "range", PySem.NameKind.globalImplicit), (PySem.Str.ofString "lacks", PySem.NameKind.free)], isGenerator := false, isCoroutine := false, more := [] : PySem.Scope } (defScope s_lacking_in))) (by decide +kernel)) (fun _ _ _ _ _ => (pg_name (i := 6) sc_lacking_in.nd rfl (by first | exact Or.inl rfl | exact Or.inr rfl))) (fun _ _ _ _ _ => pts_one (pt_val (pe_ix (kIxL K rfl) (pv 3) (pv 6) (fun _ _ => rfl)))) (fun _ _ _ _ _ => (pv 6))) pa_nil))))))))), ?_⟩
  walk_at "cws"
  refine c_need_both n0 n8 hS hR fun H1 f1 => ?_
  walk_at "cws"
  refine c_need_rule hz ?_
  walk_at "cws"
  refine c_all_lacking n0 n8 (f1.seqL hS) hR fun p H2 f2 hp hx => ?_
  walk_at "cws"
  refine c_all_stretches n0 n8 ((f1.trans f2).seqL hS) hR.1 fun p2 xs H3 f3 hp2 hx2 hn => ?_
  have hlen := dpall_len hn.now
  rw [List.length_map] at hlen
  have hpl := parts_len (rooms := n.toNat) (by omega) ns
  have hpm := parts_mem (rooms := n.toNat) (by omega) ns
  have hbl := lackB_len n.toNat z ns
  have hr100 := hR.1
  have hx3 := f3.get0 hx
  generalize lackB n.toNat z ns = bs at *
  generalize parts n.toNat ns = ps at *
  walk_at "cws"
  refine l_list xs (SqL.of hx2) (fun D i acc H' => Fr [] H3 H' ∧ acc = (counts bs (ps.take i)).map V.int) (fun D hD => ⟨Fr.new hD, rfl⟩) (fun D i acc H' hD h _ => SqL.of (h.1.get0 hx2)) ?_ ?_
  · rintro D i y acc H' hD hi ⟨F, rfl⟩ hacc hl
    have hil := (List.getElem?_eq_some_iff.mp hi).1
    obtain ⟨⟨b, e⟩, he⟩ : ∃ e, ps[i]? = some e := ⟨ps[i], List.getElem?_eq_getElem (by omega)⟩
    obtain ⟨b0, be, en⟩ := hpm _ (List.mem_of_getElem? he)
    obtain ⟨y', hy, hdp⟩ := dpall_get hn.now (i := i) (d := pairD (b, e)) (by rw [List.getElem?_map, he]; rfl)
    rw [hi] at hy
    cases hy
    obtain ⟨t, rfl, ht⟩ := dp_pair hdp
    have ht' := F.seqT ht
    obtain ⟨b', rfl⟩ : ∃ b' : Nat, b = (b' : Int) := ⟨b.toNat, by omega⟩
    obtain ⟨e', rfl⟩ : ∃ e' : Nat, e = (e' : Int) := ⟨e.toNat, by omega⟩
    have be' : (b' : Int) < e' := be
    have en' : (e' : Int) ≤ ns.length := en
    walk_at "cws"
    refine l_rng2 (lo := (b' : Int)) (hi := (e' : Int)) (by omega) (by omega) (by omega) (by omega) (fun D2 j acc2 H2' => Fr [] H' H2' ∧ acc2 = (cntL bs b' (b' + j)).map V.int) (fun D2 hD2 => ⟨Fr.new hD2, by rw [Nat.add_zero, cntL_start]; rfl⟩) ?_ ?_
    · rintro D2 j acc2 H4 hD2 hj ⟨F4, rfl⟩ hacc2 hl2
      have hjl : b' + j < bs.length := by omega
      have hv : bs[b' + j]? = some bs[b' + j] := List.getElem?_eq_getElem hjl
      have hat : atI (bs.map V.bl) ((b' : Int) + (j : Int)) = some (.bl bs[b' + j]) := by
        rw [show (b' : Int) + (j : Int) = ((b' + j : Nat) : Int) by omega]
        exact atI_nat (by rw [List.getElem?_map, hv]; rfl)
      have es : cntL bs b' (b' + (j + 1)) = _ := cntL_succ (b := b') (e := b' + j) (by omega) hv
      have hx4 := (F.trans F4).get0 hx3
      walk_at "cws"
      walk_at "cw if" <;> intro e2
      · walk_at "cws"
        exact lc_end hacc2 hl2 (by omega) ⟨F4.loc hD2, by rw [es, if_pos e2, List.map_append]; rfl⟩
      · exact ⟨_, ⟨F4, by rw [es, e2]; simp⟩, hacc2, by omega⟩
    · rintro D2 acc2 H4 hD2 ⟨F4, rfl⟩ hacc2 hl2
      rw [show b' + (((e' : Int) - (b' : Int)).toNat) = e' by omega] at hacc2
      walk_at "cws"
      refine lc_end (F4.get0 hacc) hl (by omega) ⟨(F.trans F4).loc hD, ?_⟩
      rw [take_snoc he]
      unfold counts
      rw [List.map_append, List.map_append, List.length_map]
      rfl
  · rintro D acc H' hD ⟨F, rfl⟩ hacc hl
    rw [hlen, List.take_length] at hacc
    exact k D H' (((f1.trans f2).trans f3).trans F) (f1.free (f2.free (f3.free hD))) hacc

/-! _law_begun -/
def sp_l_begun (K : PySem.W.Frag) : Sp := fun vs H Q _ => ∃ (a : Addr) (ns : List Int), vs = [.ref a] ∧ SqL K H a (ns.map V.int) ∧ ns.length ≤ 63 ∧
  ∀ b q H', Fr [] H H' → H b = none → H q = none → Box H' b q → Q (.ref b) H'
theorem ok_l_begun (T : Txt K mg ad) : FnOk P w K mg base CX0 1 ad.a_l_begun ad.d_l_begun ["_law_script"] (sp_l_begun K) := by
  refine T.F_l_begun.ok sc_l_begun (fun vs H Q E h => ?_) (fun cdv A outer s H vs Q E hr h => ?_)
  · obtain ⟨a, ns, rfl, _⟩ := h
    rfl
  obtain ⟨a, ns, rfl, hS, hl, k⟩ := h
  refine ⟨_, (pss_cons (ps_set (i := 1) sc_l_begun.nd rfl (by first | exact Or.inl rfl | exact Or.inr rfl) pe_int)
    (pss_cons (ps_for PassesOwn.never rfl (kIL (K := K) rfl (pi_list (pv 0))) (pg_name (i := 2) sc_l_begun.nd rfl (by first | exact Or.inl rfl | exact Or.inr rfl)) (pss_one (ps_set (i := 1) sc_l_begun.nd rfl (by first | exact Or.inl rfl | exact Or.inr rfl) (pe_op op_mod (pe_op op_add (pe_op op_add (pe_op op_mul (pv 1) pe_int) (pe_op op_mul (pv 2) pe_int)) pe_int) pe_int))))
    (pss_one (ps_ret (pe_lst (pa_cons (pe_callTy (kList K rfl) (by rfl) T.z_list (by decide +kernel) (pa_cons (pv 0) pa_nil)) (pa_cons (pe_op op_mul (pv 1) (pe_callTy cr_int (by rfl) T.z_int (by decide +kernel) (pa_cons (pe_cmpR op_gt (pe_callB (kLen K rfl) (by rfl) T.z_len (by decide +kernel) (pa_cons (pv 0) pa_nil)) pe_int (nomark _)) pa_nil))) pa_nil))))))), ?_⟩
  try dsimp only [L2.cxOf, L2.Cx.nox]
  walk_at "cw"
  refine f_list (ns.map V.int) (fun i σ H' => ∃ (st : Int) (v : Option V), σ = [some (.ref a), some (.int st), v] ∧ H' = H ∧ 0 ≤ st ∧ st < 2147483647) ⟨0, none, rfl, rfl, by decide, by decide⟩ (fun i σ H' _ ⟨_, _, _, e, _⟩ => by rw [e]; exact hS) ?_ ?_
  · rintro i x σ H' hi ⟨st, v, rfl, rfl, h0, h1⟩
    obtain ⟨z, hz, rfl⟩ := int_at hi
    walk_at "cw"
    exact ⟨_, _, rfl, rfl, by omega, by omega⟩
  · rintro σ H' ⟨st, v, rfl, rfl, h0, h1⟩
    walk_at "cw"
    rename_i p hp c hc
    have hc0 : H' c = none := upd_none hc
    refine k c p _ ((Fr.new hp).more (Fr.new hc)) hc0 hp ⟨_, ns, upd_same, ?_, ?_, ?_, hl⟩
    · rw [upd_ne (ne_of_none upd_same hc), upd_same]
    all_goals split <;> omega

/-! _law_take -/
def sp_l_take : Sp := fun vs H Q _ => ∃ (b q : Addr) (n : Int), vs = [.ref b, .int n] ∧ Box H b q ∧ 0 < n ∧ n < 1073741824 ∧
  ∀ (r : Int) H', Fr [b, q] H H' → Box H' b q → 0 ≤ r → r < n → Q (.int r) H'
theorem ok_l_take (T : Txt K mg ad) : FnOk P w K mg base CX0 1 ad.a_l_take ad.d_l_take ["_law_box", "_law_many"] sp_l_take := by
  refine T.F_l_take.ok sc_l_take (fun vs H Q E h => ?_) (fun cdv A outer s H vs Q E hr h => ?_)
  · obtain ⟨b, q, n, rfl, _⟩ := h
    rfl
  obtain ⟨b, q, n, rfl, hB, n0, n1, k⟩ := h
  have nbq := hB.ne
  obtain ⟨z, ms, hb, hq, z0, z1, hl⟩ := hB
  refine ⟨_, (pss_cons (ps_if (pt_cmpR (kEqD K rfl hr.units) (pe_ix (kIxL K rfl) (pv 0) pe_int (fun _ _ => rfl)) (pe_lst pa_nil) (nomark _)) (pss_cons (ps_asg (pe_op op_mod (pe_op op_mul (pe_ix (kIxL K rfl) (pv 0) pe_int (fun _ _ => rfl)) pe_int) pe_int) (pg_sub (pv 0) pe_int set_list))
    (pss_one (ps_ret (pe_op op_mod (pe_op op_fdiv (pe_ix (kIxL K rfl) (pv 0) pe_int (fun _ _ => rfl)) pe_int) (pv 1))))) pss_nil)
    (pss_cons (ps_set (i := 2) sc_l_take.nd rfl (by first | exact Or.inl rfl | exact Or.inr rfl) (pe_ix (kIxL K rfl) (pe_ix (kIxL K rfl) (pv 0) pe_int (fun _ _ => rfl)) pe_int (fun _ _ => rfl)))
    (pss_cons (ps_asg (pe_op op_fdiv (pv 2) (pv 1)) (pg_sub (pe_ix (kIxL K rfl) (pv 0) pe_int (fun _ _ => rfl)) pe_int set_list))
    (pss_cons (ps_if (PW.pt (pw_or (pt_cmpR op_eq (pe_ix (kIxL K rfl) (pe_ix (kIxL K rfl) (pv 0) pe_int (fun _ _ => rfl)) pe_int (fun _ _ => rfl)) pe_int (nomark _)) (pw_or1 (pt_cmpR op_eq (pe_ix (kIxL K rfl) (pe_ix (kIxL K rfl) (pv 0) pe_int (fun _ _ => rfl)) pe_int (fun _ _ => rfl)) (pe_un un_neg pe_int) (nomark _))))) (pss_one (ps_expr (kBM (K := K) rfl (pe_bm PySem.F.plainAttrs_list PySem.F.slot_list_pop PySem.F.type_list_pop mt_popAt (pe_ix (kIxL K rfl) (pv 0) pe_int (fun _ _ => rfl)) (pa_cons pe_int pa_nil))))) pss_nil)
    (pss_one (ps_ret (pe_op op_mod (pv 2) (pv 1)))))))), ?_⟩
  try dsimp only [L2.cxOf, L2.Cx.nox]
  walk_at "cw"
  rename_i p hp
  walk_at "cw if" <;> intro e
  · subst e
    walk_at "cw"
    refine k _ _ ?_ ?_ (mod_in n0).1 (mod_in n0).2
    · exact (Fr.new hp).trans (Fr.at (by simp))
    · exact ⟨_, [], upd_same, by walk_at "cw at", by omega, by omega, by simp⟩
  · obtain ⟨m, r, rfl⟩ : ∃ m r, ms = m :: r := by
      cases ms with
      | nil => exact absurd rfl e
      | cons m r => exact ⟨m, r, rfl⟩
    simp only [List.map_cons] at hq
    simp only [List.length_cons] at hl
    walk_at "cw"
    have fin : ∀ xs : List Int, xs.length ≤ 63 → Q (V.int (m % n)) (upd (upd H p (HO.lst [])) q (HO.lst (xs.map V.int))) := fun xs hx => by
      refine k _ _ ?_ ?_ (mod_in n0).1 (mod_in n0).2
      · exact (Fr.new hp).trans (Fr.at (by simp))
      · exact ⟨z, xs, by walk_at "cw at", upd_same, z0, z1, hx⟩
    walk_at "cw if" <;> intro e1
    · walk_at "cw"
      rw [upd_upd]
      exact fin r (by omega)
    · walk_at "cw"
      walk_at "cw if" <;> intro e2
      · walk_at "cw"
        rw [upd_upd]
        exact fin r (by omega)
      · walk_at "cw"
        exact fin (m / n :: r) (by simp only [List.length_cons]; omega)
theorem c_take {H : Hp} {Q : VK} {E : XK} {b q : Addr} {n : Int} (hB : Box H b q) (n0 : 0 < n) (n1 : n < 1073741824) (k : ∀ (r : Int) H', Fr [b, q] H H' → Box H' b q → 0 ≤ r → r < n → Q (.int r) H') : sp_l_take ([.ref b, .int n] ++ []) H Q E := ⟨b, q, n, rfl, hB, n0, n1, k⟩

/-! _law_alike -/
def sp_l_alike (K : PySem.W.Frag) (k : Nat) : Sp := fun vs H Q _ => ∃ (x y : V) (d : PyData), vs = [x, y] ∧ Dp K H x d ∧ Dp K H y d ∧ fits k d ∧ Q (.bl true) H
theorem c_alike {H : Hp} {Q : VK} {E : XK} {k : Nat} {x y : V} (d : PyData) (h1 : Dp K H x d) (h2 : Dp K H y d) (h3 : fits k d) (q : Q (.bl true) H) : sp_l_alike K k ([x, y] ++ []) H Q E := ⟨x, y, d, rfl, h1, h2, h3, q⟩
theorem alike_body (T : Txt K mg ad) (k : Nat) (spJ : Sp) (GJ : FnOk P w K mg base CX0 k ad.a_l_alike ad.d_l_alike ["_law_found", "_law_due"] spJ)
    (hk : ∀ ds, fits k (.list ds) ∨ fits k (.tuple ds) → ∃ j, k = j + 1 ∧ spJ = sp_l_alike K j) : FnOk P w K mg base CX0 (k + 1) ad.a_l_alike ad.d_l_alike ["_law_found", "_law_due"] (sp_l_alike K k) := by
    refine T.F_l_alike.ok sc_l_alike (fun vs H Q E h => ?_) (fun cdv A outer s H vs Q E hr h => ?_)
    · obtain ⟨x, y, d, rfl, _⟩ := h
      rfl
    obtain ⟨x, y, d, rfl, h1, h2, h3, q⟩ := h
    refine ⟨_, (pss_cons (ps_if (pt_cmpR op_isN1 (pv 1) pe_non (nomark _)) (pss_one (ps_ret (pe_cmpR op_isN1 (pv 0) pe_non (nomark _)))) pss_nil)
    (pss_cons (ps_if (pt_val (pe_callB (kIsi K rfl) (by rfl) T.z_isinstance (by decide +kernel) (pa_cons (pv 1) (pa_cons (pe_bltn (v := .ty "bool") (by rfl) T.z_bool (by decide +kernel) rfl) pa_nil)))) (pss_one (ps_ret (pe_and (pe_callB (kIsi K rfl) (by rfl) T.z_isinstance (by decide +kernel) (pa_cons (pv 0) (pa_cons (pe_bltn (v := .ty "bool") (by rfl) T.z_bool (by decide +kernel) rfl) pa_nil))) (pe_one (pe_cmpR op_eq (pv 0) (pv 1) (nomark _)))))) pss_nil)
    (pss_cons (ps_if (pt_val (pe_callB (kIsi K rfl) (by rfl) T.z_isinstance (by decide +kernel) (pa_cons (pv 1) (pa_cons (pe_bltn (v := .ty "int") (by rfl) T.z_int (by decide +kernel) rfl) pa_nil)))) (pss_one (ps_ret (pe_and (pe_callB (kIsi K rfl) (by rfl) T.z_isinstance (by decide +kernel) (pa_cons (pv 0) (pa_cons (pe_bltn (v := .ty "int") (by rfl) T.z_int (by decide +kernel) rfl) pa_nil))) (pe_and (pe_not (pe_callB (kIsi K rfl) (by rfl) T.z_isinstance (by decide +kernel) (pa_cons (pv 0) (pa_cons (pe_bltn (v := .ty "bool") (by rfl) T.z_bool (by decide +kernel) rfl) pa_nil)))) (pe_one (pe_cmpR op_eq (pv 0) (pv 1) (nomark _))))))) pss_nil)
    (pss_cons (ps_if (pt_val (pe_callB (kIsi K rfl) (by rfl) T.z_isinstance (by decide +kernel) (pa_cons (pv 1) (pa_cons (pe_bltn (v := .ty "str") (by rfl) T.z_str (by decide +kernel) rfl) pa_nil)))) (pss_one (ps_ret (pe_and (pe_callB (kIsi K rfl) (by rfl) T.z_isinstance (by decide +kernel) (pa_cons (pv 0) (pa_cons (pe_bltn (v := .ty "str") (by rfl) T.z_str (by decide +kernel) rfl) pa_nil))) (pe_one (pe_cmpR op_eq (pv 0) (pv 1) (nomark _)))))) pss_nil)
    (pss_cons (ps_if (PW.pt (pw_or (pt_cmpR op_ne (pe_callB (kIsi K rfl) (by rfl) T.z_isinstance (by decide +kernel) (pa_cons (pv 1) (pa_cons (pe_bltn (v := .ty "tuple") (by rfl) T.z_tuple (by decide +kernel) rfl) pa_nil))) (pe_callB (kIsi K rfl) (by rfl) T.z_isinstance (by decide +kernel) (pa_cons (pv 0) (pa_cons (pe_bltn (v := .ty "tuple") (by rfl) T.z_tuple (by decide +kernel) rfl) pa_nil))) (nomark _)) (pw_or1 (pt_cmpR op_ne (pe_callB (kIsi K rfl) (by rfl) T.z_isinstance (by decide +kernel) (pa_cons (pv 1) (pa_cons (pe_bltn (v := .ty "list") (by rfl) T.z_list (by decide +kernel) rfl) pa_nil))) (pe_callB (kIsi K rfl) (by rfl) T.z_isinstance (by decide +kernel) (pa_cons (pv 0) (pa_cons (pe_bltn (v := .ty "list") (by rfl) T.z_list (by decide +kernel) rfl) pa_nil))) (nomark _))))) (pss_one (ps_ret pe_bl)) pss_nil)
    (pss_cons (ps_if (pt_cmpR op_ne (pe_callB (kLen K rfl) (by rfl) T.z_len (by decide +kernel) (pa_cons (pv 0) pa_nil)) (pe_callB (kLen K rfl) (by rfl) T.z_len (by decide +kernel) (pa_cons (pv 1) pa_nil)) (nomark _)) (pss_one (ps_ret pe_bl)) pss_nil)
    (pss_cons (ps_for PassesOwn.never rfl (pi_range1 (by rfl) T.z_range (pa_cons (pe_callB (kLen K rfl) (by rfl) T.z_len (by decide +kernel) (pa_cons (pv 1) pa_nil)) pa_nil)) (pg_name (i := 2) sc_l_alike.nd rfl (by first | exact Or.inl rfl | exact Or.inr rfl)) (pss_one (ps_if (pt_not (pt_val (pe_call GJ (hr.mono (Nat.le_refl _)) (by rfl) T.m_l_alike T.F_l_alike.kp T.b_l_alike .nil pass0 (pa_cons (pe_ix (kIxQ K rfl) (pv 0) (pv 2) (fun _ _ => rfl)) (pa_cons (pe_ix (kIxQ K rfl) (pv 1) (pv 2) (fun _ _ => rfl)) pa_nil))))) (pss_one (ps_ret pe_bl)) pss_nil)))
    (pss_one (ps_ret pe_bl))))))))), ?_⟩
    try dsimp only [L2.cxOf, L2.Cx.nox]
    cases h1 with
    | non =>
      cases h2
      walk_at "cw"
      exact q
    | bl b =>
      cases h2
      walk_at "cw"
      rw [decide_eq_true rfl]
      exact q
    | int i =>
      cases h2
      walk_at "cw"
      rw [decide_eq_true rfl]
      exact q
    | str z =>
      cases h2
      walk_at "cw"
      rw [decide_eq_true rfl]
      exact q
    | @lst a1 xs1 ds hs1 ha1 =>
      cases h2 with
      | @lst a2 xs2 _ hs2 ha2 =>
      obtain ⟨j, rfl, rfl⟩ := hk ds (.inl h3)
      obtain ⟨hz, hf⟩ := h3
      have l1 := dpall_len ha1
      have l2 := dpall_len ha2
      walk_at "cw"
      refine f_rng1 (by omega) (by omega) (fun i σ H' => ∃ v : Option V, σ = [some (.ref a1), some (.ref a2), v] ∧ H' = H) ⟨none, rfl, rfl⟩ ?_ ?_
      · rintro i σ H' hi ⟨v, rfl, rfl⟩
        have hi' : i < ds.length := by omega
        obtain ⟨x1, e1, d1⟩ := dpall_get ha1 (List.getElem?_eq_getElem hi')
        obtain ⟨x2, e2, d2⟩ := dpall_get ha2 (List.getElem?_eq_getElem hi')
        walk_at "cw"
        refine c_alike _ d1 d2 (hf _ (List.getElem_mem hi')) ?_
        walk_at "cw"
        exact ⟨_, rfl, rfl⟩
      · rintro σ H' ⟨v, rfl, rfl⟩
        walk_at "cw"
        exact q
    | @tup a1 xs1 ds hs1 ha1 =>
      cases h2 with
      | @tup a2 xs2 _ hs2 ha2 =>
      obtain ⟨j, rfl, rfl⟩ := hk ds (.inr h3)
      obtain ⟨hz, hf⟩ := h3
      have l1 := dpall_len ha1
      have l2 := dpall_len ha2
      walk_at "cw"
      refine f_rng1 (by omega) (by omega) (fun i σ H' => ∃ v : Option V, σ = [some (.ref a1), some (.ref a2), v] ∧ H' = H) ⟨none, rfl, rfl⟩ ?_ ?_
      · rintro i σ H' hi ⟨v, rfl, rfl⟩
        have hi' : i < ds.length := by omega
        obtain ⟨x1, e1, d1⟩ := dpall_get ha1 (List.getElem?_eq_getElem hi')
        obtain ⟨x2, e2, d2⟩ := dpall_get ha2 (List.getElem?_eq_getElem hi')
        walk_at "cw"
        refine c_alike _ d1 d2 (hf _ (List.getElem_mem hi')) ?_
        walk_at "cw"
        exact ⟨_, rfl, rfl⟩
      · rintro σ H' ⟨v, rfl, rfl⟩
        walk_at "cw"
        exact q
theorem alike_at (T : Txt K mg ad) : ∀ k : Nat, FnOk P w K mg base CX0 (k + 1) ad.a_l_alike ad.d_l_alike ["_law_found", "_law_due"] (sp_l_alike K k)
  | 0 => alike_body T 0 (fun _ _ _ _ => False) ⟨fun _ _ _ _ h => h.elim, fun _ _ _ _ _ _ _ _ _ _ _ _ _ h => h.elim⟩ (fun ds h => by rcases h with h | h <;> exact h.elim)
  | k + 1 => alike_body T (k + 1) (sp_l_alike K k) (alike_at T k) (fun _ _ => ⟨k, rfl, rfl⟩)
theorem ok_l_alike (T : Txt K mg ad) : FnOk P w K mg base CX0 6 ad.a_l_alike ad.d_l_alike ["_law_found", "_law_due"] (sp_l_alike K 5) := alike_at T 5

/-! _law_row -/
def sp_l_row : Sp := fun vs H Q _ => ∃ (b q : Addr) (n : Int), vs = [.ref b, .int n] ∧ Box H b q ∧ 0 ≤ n ∧ n ≤ 100 ∧
  ∀ (p : Addr) (ns : List Int) H', Fr [b, q] H H' → Box H' b q → H p = none → H' p = some (.lst (ns.map V.int)) → (ns.length : Int) ≤ n → (∀ x ∈ ns, 0 ≤ x ∧ x < 12) → Q (.ref p) H'
theorem c_row {H : Hp} {Q : VK} {E : XK} {b q : Addr} {n : Int} (hB : Box H b q) (n0 : 0 ≤ n) (n1 : n ≤ 100)
    (k : ∀ (p : Addr) (ns : List Int) H', Fr [b, q] H H' → Box H' b q → H p = none → H' p = some (.lst (ns.map V.int)) → (ns.length : Int) ≤ n → (∀ x ∈ ns, 0 ≤ x ∧ x < 12) → Q (.ref p) H') : sp_l_row ([.ref b, .int n] ++ []) H Q E := ⟨b, q, n, rfl, hB, n0, n1, k⟩
def row_mid (H0 : Hp) (b q p : Addr) (n pg way : Int) (t : V) (ns : List Int) : L2.St → Hp → Prop := fun σ H => ∃ z : Int, 0 ≤ z ∧ z < 12 ∧ σ = [some (.ref b), some (.int n), some (.int pg), some (.ref p), some (.int way), some t, some (.int z)] ∧
  Fr [b, q] H0 H ∧ Box H b q ∧ H p = some (.lst (ns.map V.int))
theorem ok_l_row (T : Txt K mg ad) : FnOk P w K mg base CX0 2 ad.a_l_row ad.d_l_row ["_law_box", "_law_most"] sp_l_row := by
  refine T.F_l_row.ok sc_l_row (fun vs H Q E h => ?_) (fun cdv A outer s H vs Q E hr h => ?_)
  · obtain ⟨b, q, n, rfl, _⟩ := h
    rfl
  obtain ⟨b, q, n, rfl, hB, n0, n1, k⟩ := h
  refine ⟨_, (pss_cons (ps_set (i := 2) sc_l_row.nd rfl (by first | exact Or.inl rfl | exact Or.inr rfl) (pe_op op_add pe_int (pe_call (ok_l_take T) (hr.mono (by decide)) (by rfl) T.m_l_take T.F_l_take.kp T.b_l_take .nil pass0 (pa_cons (pv 0) (pa_cons (pe_ix (kIxL K rfl) (pe_lst (pa_cons pe_int (pa_cons pe_int (pa_cons pe_int pa_nil)))) (pe_call (ok_l_take T) (hr.mono (by decide)) (by rfl) T.m_l_take T.F_l_take.kp T.b_l_take .nil pass0 (pa_cons (pv 0) (pa_cons pe_int pa_nil))) (fun _ _ => rfl)) pa_nil)))))
    (pss_cons (ps_set (i := 3) sc_l_row.nd rfl (by first | exact Or.inl rfl | exact Or.inr rfl) (pe_lst pa_nil))
    (pss_cons (ps_set (i := 4) sc_l_row.nd rfl (by first | exact Or.inl rfl | exact Or.inr rfl) (pe_call (ok_l_take T) (hr.mono (by decide)) (by rfl) T.m_l_take T.F_l_take.kp T.b_l_take .nil pass0 (pa_cons (pv 0) (pa_cons pe_int pa_nil))))
    (pss_cons (ps_for PassesOwn.never rfl (pi_range1 (by rfl) T.z_range (pa_cons (pe_call (ok_l_take T) (hr.mono (by decide)) (by rfl) T.m_l_take T.F_l_take.kp T.b_l_take .nil pass0 (pa_cons (pv 0) (pa_cons (pe_op op_add (pv 1) pe_int) pa_nil))) pa_nil)) (pg_name (i := 5) sc_l_row.nd rfl (by first | exact Or.inl rfl | exact Or.inr rfl)) (pss_cons (ps_set (i := 6) sc_l_row.nd rfl (by first | exact Or.inl rfl | exact Or.inr rfl) (pe_call (ok_l_take T) (hr.mono (by decide)) (by rfl) T.m_l_take T.F_l_take.kp T.b_l_take .nil pass0 (pa_cons (pv 0) (pa_cons (pv 2) pa_nil))))
    (C8.pss_cut (ps_if (PW.pt (pw_and (pt_cmpR op_eq (pv 4) pe_int (nomark _)) (pw_and (pt_cmpR (kNeD K rfl hr.units) (pv 3) (pe_lst pa_nil) (nomark _)) (pw_and1 (pt_cmpR op_gt (pe_call (ok_l_take T) (hr.mono (by decide)) (by rfl) T.m_l_take T.F_l_take.kp T.b_l_take .nil pass0 (pa_cons (pv 0) (pa_cons pe_int pa_nil))) pe_int (nomark _)))))) (pss_one (ps_set (i := 6) sc_l_row.nd rfl (by first | exact Or.inl rfl | exact Or.inr rfl) (pe_ix (kIxL K rfl) (pv 3) (pe_op op_sub (pe_op op_sub (pe_callB (kLen K rfl) (by rfl) T.z_len (by decide +kernel) (pa_cons (pv 3) pa_nil)) pe_int) (pe_call (ok_l_take T) (hr.mono (by decide)) (by rfl) T.m_l_take T.F_l_take.kp T.b_l_take .nil pass0 (pa_cons (pv 0) (pa_cons (pe_callB (cr_min2 rfl) (by rfl) T.z_min (by decide +kernel) (pa_cons pe_int (pa_cons (pe_callB (kLen K rfl) (by rfl) T.z_len (by decide +kernel) (pa_cons (pv 3) pa_nil)) pa_nil))) pa_nil)))) (fun _ _ => rfl)))) pss_nil)
    (C8.pss_cut (ps_if (PW.pt (pw_and (pt_cmpR op_eq (pv 4) pe_int (nomark _)) (pw_and1 (pt_cmpR op_gt (pe_call (ok_l_take T) (hr.mono (by decide)) (by rfl) T.m_l_take T.F_l_take.kp T.b_l_take .nil pass0 (pa_cons (pv 0) (pa_cons pe_int pa_nil))) pe_int (nomark _))))) (pss_one (ps_set (i := 6) sc_l_row.nd rfl (by first | exact Or.inl rfl | exact Or.inr rfl) (pe_op op_mod (pv 5) (pv 2)))) pss_nil)
    (C8.pss_cut (ps_if (PW.pt (pw_and (pt_cmpR op_eq (pv 4) pe_int (nomark _)) (pw_and (pt_cmpR (kNeD K rfl hr.units) (pv 3) (pe_lst pa_nil) (nomark _)) (pw_and1 (pt_cmpR op_gt (pe_call (ok_l_take T) (hr.mono (by decide)) (by rfl) T.m_l_take T.F_l_take.kp T.b_l_take .nil pass0 (pa_cons (pv 0) (pa_cons pe_int pa_nil))) pe_int (nomark _)))))) (pss_one (ps_set (i := 6) sc_l_row.nd rfl (by first | exact Or.inl rfl | exact Or.inr rfl) (pe_op op_mod (pe_op op_add (pe_op op_add (pe_ix (kIxL K rfl) (pv 3) (pe_un un_neg pe_int) (fun _ _ => rfl)) pe_int) (pe_call (ok_l_take T) (hr.mono (by decide)) (by rfl) T.m_l_take T.F_l_take.kp T.b_l_take .nil pass0 (pa_cons (pv 0) (pa_cons pe_int pa_nil)))) (pv 2)))) pss_nil)
    (pss_one (ps_expr (kBM (K := K) rfl (pe_bm PySem.F.plainAttrs_list PySem.F.slot_list_append PySem.F.type_list_append mt_append (pv 3) (pa_cons (pv 6) pa_nil))))))))))
    (pss_one (ps_ret (pv 3))))))), ?_⟩
  try dsimp only [L2.cxOf, L2.Cx.nox]
  walk_at "cw"
  rename_i p1 hp1
  refine c_take (hB.keep0 (Fr.new hp1)) (by omega) (by omega) fun r H1 f1 B1 r0 r1 => ?_
  have h1 : H1 p1 = some (.lst (([4, 6, 12] : List Int).map V.int)) := f1.get upd_same (hB.free hp1)
  obtain ⟨v, hv, hm⟩ := ints_at (ns := [4, 6, 12]) r0 (by simpa using r1)
  have v0 : 0 < v ∧ v ≤ 12 := by
    simp at hm
    omega
  walk_at "cw"
  refine c_take B1 (by omega) (by omega) fun pg0 H2 f2 B2 pg1 pg2 => ?_
  walk_at "cw"
  rename_i p hp
  have F2 : Fr [b, q] H H2 := ((Fr.new hp1).trans f1).trans f2
  have hp0 : H p = none := F2.free hp
  have np : p ∉ [b, q] := B2.free hp
  refine c_take (B2.keep0 (Fr.new hp)) (by omega) (by omega) fun way H4 f4 B4 w0 w1 => ?_
  have h4 : H4 p = some (.lst (([] : List Int).map V.int)) := f4.get upd_same np
  have F4 : Fr [b, q] H H4 := (F2.trans (Fr.new hp)).trans f4
  walk_at "cw"
  refine c_take B4 (by omega) (by omega) fun m H5 f5 B5 m0 m1 => ?_
  have h5 := f5.get h4 np
  have F5 := F4.trans f5
  walk_at "cw"
  refine f_rng1 (by omega) m0 (fun i σ H' => ∃ (ns : List Int) (v5 v6 : Option V), σ = [some (.ref b), some (.int n), some (.int (1 + pg0)), some (.ref p), some (.int way), v5, v6] ∧ Fr [b, q] H H' ∧ Box H' b q ∧ H' p = some (.lst (ns.map V.int)) ∧ ns.length = i ∧ ∀ x ∈ ns, 0 ≤ x ∧ x < 12)
    ⟨[], none, none, rfl, F5, B5, h5, rfl, by simp⟩ ?_ ?_
  · rintro i σ H' hi ⟨ns, v5, v6, rfl, F, B, hP, hl, hm⟩
    walk_at "cw"
    refine c_take B (by omega) (by omega) fun z H6 f6 B6 z0 z1 => ?_
    have F6 := F.trans f6
    have h6 := f6.get hP np
    walk_at "cw"
    refine w_cut (row_mid H b q p n (1 + pg0) way (.int (i : Int)) ns) ?_ ?_
    · walk_at "cw"
      walk_at "cw if" <;> intro e1
      · walk_at "cw"
        walk_at "cw if" <;> intro e2
        · walk_at "cw"
          rename_i p7 hp7
          have np7 : p ≠ p7 := ne_of_none h6 hp7
          refine c_take (B6.keep0 (Fr.new hp7)) (by omega) (by omega) fun z2 H7 f7 B7 z20 z21 => ?_
          have h7 : H7 p = some (.lst (ns.map V.int)) := f7.get ((upd_ne np7).trans h6) np
          have F7 := (F6.trans (Fr.new hp7)).trans f7
          walk_at "cw"
          walk_at "cw if" <;> intro e3
          · walk_at "cw"
            simp only [List.length_map]
            have hlen : 0 < ns.length := List.length_pos_iff.mpr e2
            refine c_take B7 (by split <;> omega) (by split <;> omega) fun z3 H8 f8 B8 z30 z31 => ?_
            have h8 := f8.get h7 np
            have zz : z3 < (ns.length : Int) := by
              split at z31 <;> omega
            obtain ⟨v, hv, hvm⟩ := ints_at (ns := ns) (r := (ns.length : Int) - 1 - z3) (by omega) (by omega)
            walk_at "cw"
            exact ⟨v, (hm v hvm).1, (hm v hvm).2, rfl, F7.trans f8, B8, h8⟩
          · walk_at "cw"
            exact ⟨z, z0, by omega, rfl, F7, B7, h7⟩
        · walk_at "cw"
          rename_i p7 hp7
          exact ⟨z, z0, by omega, rfl, F6.trans (Fr.new hp7), B6.keep0 (Fr.new hp7), (upd_ne (ne_of_none h6 hp7)).trans h6⟩
      · walk_at "cw"
        exact ⟨z, z0, by omega, rfl, F6, B6, h6⟩
    rintro σ H7 ⟨z', z0', z1', rfl, F7, B7, h7⟩
    refine w_cut (row_mid H b q p n (1 + pg0) way (.int (i : Int)) ns) ?_ ?_
    · walk_at "cw"
      walk_at "cw if" <;> intro e1
      · walk_at "cw"
        refine c_take B7 (by omega) (by omega) fun z2 H8 f8 B8 z20 z21 => ?_
        have h8 := f8.get h7 np
        have F8 := F7.trans f8
        walk_at "cw"
        walk_at "cw if" <;> intro e3
        · walk_at "cw"
          have m1 := mod_in (z := (i : Int)) (n := 1 + pg0) (by omega)
          exact ⟨_, m1.1, by omega, rfl, F8, B8, h8⟩
        · walk_at "cw"
          exact ⟨z', z0', z1', rfl, F8, B8, h8⟩
      · walk_at "cw"
        exact ⟨z', z0', z1', rfl, F7, B7, h7⟩
    rintro σ H8 ⟨z'', z0'', z1'', rfl, F8, B8, h8⟩
    refine w_cut (row_mid H b q p n (1 + pg0) way (.int (i : Int)) ns) ?_ ?_
    · walk_at "cw"
      walk_at "cw if" <;> intro e1
      · walk_at "cw"
        walk_at "cw if" <;> intro e2
        · walk_at "cw"
          rename_i p7 hp7
          have np7 : p ≠ p7 := ne_of_none h8 hp7
          refine c_take (B8.keep0 (Fr.new hp7)) (by omega) (by omega) fun z2 H9 f9 B9 z20 z21 => ?_
          have h9 : H9 p = some (.lst (ns.map V.int)) := f9.get ((upd_ne np7).trans h8) np
          have F9 := (F8.trans (Fr.new hp7)).trans f9
          walk_at "cw"
          walk_at "cw if" <;> intro e3
          · obtain ⟨v, hv, hvm⟩ := ints_last e2
            walk_at "cw"
            refine c_take B9 (by omega) (by omega) fun z3 H10 f10 B10 z30 z31 => ?_
            walk_at "cw"
            have m1 := mod_in (z := v + 1 + z3) (n := 1 + pg0) (by omega)
            exact ⟨_, m1.1, by omega, rfl, F9.trans f10, B10, f10.get h9 np⟩
          · walk_at "cw"
            exact ⟨z'', z0'', z1'', rfl, F9, B9, h9⟩
        · walk_at "cw"
          rename_i p7 hp7
          exact ⟨z'', z0'', z1'', rfl, F8.trans (Fr.new hp7), B8.keep0 (Fr.new hp7), (upd_ne (ne_of_none h8 hp7)).trans h8⟩
      · walk_at "cw"
        exact ⟨z'', z0'', z1'', rfl, F8, B8, h8⟩
    rintro σ H9 ⟨y, y0, y1, rfl, F9, B9, h9⟩
    walk_at "cw"
    refine ⟨ns ++ [y], _, _, rfl, F9.loc hp0, B9.keep (W := [p]) (Fr.at (by simp)) ?_ ?_, upd_same.trans (by rw [List.map_append]; rfl), by simp [hl], ?_⟩
    · exact fun m => np (by simp at m; simp [m])
    · exact fun m => np (by simp at m; simp [m])
    · intro x hx
      rcases List.mem_append.mp hx with h | h
      · exact hm x h
      · simp at h
        subst h
        exact ⟨y0, y1⟩
  · rintro σ H' ⟨ns, v5, v6, rfl, F, B, hP, hl, hm⟩
    walk_at "cw"
    exact k p ns H' F B hp0 hP (by omega) hm

/-! _law_dial -/
def sp_l_dial : Sp := fun vs H Q _ => ∃ n : Int, vs = [.int n] ∧ 1 ≤ n ∧ n ≤ 8 ∧ ∀ p a b H', Fr [] H H' → H p = none → H a = none → H b = none → p ≠ a → p ≠ b → a ≠ b → LDial H' p a b (Dl.new n.toNat) → Q (.ref p) H'
theorem c_dial {H : Hp} {Q : VK} {E : XK} {n : Int} (n0 : 1 ≤ n) (n8 : n ≤ 8) (k : ∀ p a b H', Fr [] H H' → H p = none → H a = none → H b = none → p ≠ a → p ≠ b → a ≠ b → LDial H' p a b (Dl.new n.toNat) → Q (.ref p) H') : sp_l_dial ([.int n] ++ []) H Q E := ⟨n, rfl, n0, n8, k⟩
theorem rep1 (k : Nat) (v : V) : (List.replicate k [v]).flatten = List.replicate k v := by
  induction k with
  | zero => rfl
  | succ k ih => rw [List.replicate_succ, List.flatten_cons, ih]; rfl
theorem ok_l_dial (T : Txt K mg ad) : FnOk P w K mg base CX0 1 ad.a_l_dial ad.d_l_dial ["_law_rooms"] sp_l_dial := by
  refine T.F_l_dial.ok sc_l_dial (fun vs H Q E h => ?_) (fun cdv A outer s H vs Q E hr h => ?_)
  · obtain ⟨n, rfl, _⟩ := h
    rfl
  obtain ⟨n, rfl, n0, n8, k⟩ := h
  refine ⟨_, (pss_one (ps_ret (pe_disp (pps_cons pe_str (pe_op op_rep (pe_lst (pa_cons pe_non pa_nil)) (pv 0)) (pps_cons pe_str (pe_op op_rep (pe_lst (pa_cons pe_bl pa_nil)) (pv 0)) (pps_cons pe_str pe_int (pps_cons pe_str pe_int pps_nil)))) (by rfl) (by rfl) (fun z => by cases z) (by decide)))), ?_⟩
  walk_at "cwd"
  rename_i p hp q1 hq1 a ha q2 hq2 b hb
  have nap : a ≠ p := ne_s (ne_of_none upd_same (upd_none ha))
  have nbp : b ≠ p := ne_s (ne_of_none upd_same (upd_none (upd_none (upd_none hb))))
  have nab : a ≠ b := ne_of_none upd_same (upd_none hb)
  refine ⟨?_, ddl a b 0 0, rfl, by show 4 ≤ 15; decide, ?_⟩
  · have e1 : p ≠ q1 := ne_of_none upd_same hq1
    have e2 : p ≠ q2 := ne_of_none ((upd_ne (ne_s nap)).trans ((upd_ne e1).trans upd_same)) hq2
    rw [upd_ne (ne_s nbp), upd_ne e2, upd_ne (ne_s nap), upd_ne e1, upd_same]
  · rw [ddl_made]
    have e3 : a ≠ q2 := ne_of_none upd_same hq2
    refine k p a b _ ?_ hp (upd_none (upd_none ha)) (upd_none (upd_none (upd_none (upd_none hb)))) (ne_s nap) (ne_s nbp) nab ⟨upd_same, ?_, ?_⟩
    · refine Fr.loc ?_ hp
      exact (((((Fr.new hp).trans (Fr.new hq1)).trans (Fr.new ha)).trans (Fr.new hq2)).trans (Fr.new hb))
    · rw [upd_ne nap, upd_ne nab, upd_ne e3, upd_same, rep1]; simp [Dl.new, oV]
    · rw [upd_ne nbp, upd_same, rep1]; simp [Dl.new]

/-! _law_ask -/
def sp_l_ask : Sp := fun vs H Q _ => ∃ (p a b : Addr) (d : Dl) (n : Nat) (x : Int), vs = [.ref p, .int x] ∧ LDial H p a b d ∧ d.Wf n ∧ p ≠ a ∧ p ≠ b ∧ a ≠ b ∧
  ∀ t q H', Fr [p, a, b] H H' → LDial H' p a b (d.ask x).1 → H t = none → H q = none → H' t = some (.tup (toldV (d.ask x).2 q)) → H' q = some (.lst (natsV (d.ask x).2.passed)) → Q (.ref t) H'
theorem c_ask {H : Hp} {Q : VK} {E : XK} {p a b : Addr} {d : Dl} {n : Nat} {x : Int} (h : LDial H p a b d) (w : d.Wf n) (pa : p ≠ a) (pb : p ≠ b) (ab : a ≠ b)
    (k : ∀ t q H', Fr [p, a, b] H H' → LDial H' p a b (d.ask x).1 → H t = none → H q = none → H' t = some (.tup (toldV (d.ask x).2 q)) → H' q = some (.lst (natsV (d.ask x).2.passed)) → Q (.ref t) H') : sp_l_ask ([.ref p, .int x] ++ []) H Q E :=
  ⟨p, a, b, d, n, x, rfl, h, w, pa, pb, ab, k⟩
theorem ok_l_ask (T : Txt K mg ad) : FnOk P w K mg base CX0 1 ad.a_l_ask ad.d_l_ask ["_law_dial_here", "_law_page"] sp_l_ask := by
  refine T.F_l_ask.ok sc_l_ask (fun vs H Q E h => ?_) (fun cdv A outer s H vs Q E hr h => ?_)
  · obtain ⟨p, a, b, d, n, x, rfl, _⟩ := h
    rfl
  obtain ⟨p, a, b, d, n, x, rfl, hD, hW, npa, npb, nab, k⟩ := h
  obtain ⟨h1, h2, h3⟩ := id hD
  obtain ⟨n0, n8, hl, sl, hd, mk⟩ := id hW
  have hml : (d.here.map oV).length = n := by rw [List.length_map]; exact hl
  have hu := hu_of hr
  refine ⟨_, (pss_cons (ps_set (i := 2) sc_l_ask.nd rfl (by first | exact Or.inl rfl | exact Or.inr rfl) (pe_callB (kLen K rfl) (by rfl) T.z_len (by decide +kernel) (pa_cons (pe_dget hu (pv 0) pe_str (fun _ _ => rfl)) pa_nil)))
    (pss_cons (ps_if (pt_cmpR (kIn K rfl) (pv 1) (pe_dget hu (pv 0) pe_str (fun _ _ => rfl)) (by with_unfolding_all rfl)) (pss_cons (ps_asg pe_bl (pg_sub (pe_dget hu (pv 0) pe_str (fun _ _ => rfl)) (kBM (K := K) rfl (pe_bm PySem.F.plainAttrs_list PySem.F.slot_list_index PySem.F.type_list_index (kIndex K rfl) (pe_dget hu (pv 0) pe_str (fun _ _ => rfl)) (pa_cons (pv 1) pa_nil))) set_list))
    (pss_one (ps_ret (pe_tup (pa_cons pe_bl (pa_cons pe_non (pa_cons (pe_lst pa_nil) pa_nil))))))) pss_nil)
    (pss_cons (ps_set (i := 3) sc_l_ask.nd rfl (by first | exact Or.inl rfl | exact Or.inr rfl) (pe_lst pa_nil))
    (pss_cons (ps_set (i := 4) sc_l_ask.nd rfl (by first | exact Or.inl rfl | exact Or.inr rfl) (pe_dget hu (pv 0) pe_str (fun _ _ => rfl)))
    (C8.pss_cut (ps_while PassesOwn.never (pt_val (pe_ix (kIxL K rfl) (pe_dget hu (pv 0) pe_str (fun _ _ => rfl)) (pv 4) (fun _ _ => rfl))) (pss_cons (ps_asg pe_bl (pg_sub (pe_dget hu (pv 0) pe_str (fun _ _ => rfl)) (pv 4) set_list))
    (pss_cons (ps_expr (kBM (K := K) rfl (pe_bm PySem.F.plainAttrs_list PySem.F.slot_list_append PySem.F.type_list_append mt_append (pv 3) (pa_cons (pv 4) pa_nil))))
    (pss_one (ps_set (i := 4) sc_l_ask.nd rfl (by first | exact Or.inl rfl | exact Or.inr rfl) (pe_op op_mod (pe_op op_add (pv 4) pe_int) (pv 2)))))))
    (pss_cons (ps_set (i := 5) sc_l_ask.nd rfl (by first | exact Or.inl rfl | exact Or.inr rfl) (pe_ix (kIxL K rfl) (pe_dget hu (pv 0) pe_str (fun _ _ => rfl)) (pv 4) (fun _ _ => rfl)))
    (pss_cons (ps_asg (pv 1) (pg_sub (pe_dget hu (pv 0) pe_str (fun _ _ => rfl)) (pv 4) set_list))
    (pss_cons (ps_asg pe_bl (pg_sub (pe_dget hu (pv 0) pe_str (fun _ _ => rfl)) (pv 4) set_list))
    (pss_cons (ps_dput hu (pv 0) pe_str (pe_op op_mod (pe_op op_add (pv 4) pe_int) (pv 2)) rfl)
    (pss_cons (ps_dput hu (pv 0) pe_str (pe_op op_add (pe_dget hu (pv 0) pe_str (fun _ _ => rfl)) pe_int) rfl)
    (pss_one (ps_ret (pe_tup (pa_cons pe_bl (pa_cons (pv 5) (pa_cons (pv 3) pa_nil)))))))))))))))), ?_⟩
  walk_at "cwd"
  refine w_inL (SqL.of h2) rfl (flat_oV _) (in_oV x d.here) ?_
  walk_at "cwd"
  walk_at "cw if" <;> intro e
  · walk_at "cwd"
    refine w_index (SqL.of h2) e ?_
    have hj := List.idxOf_lt_length_iff.mpr e
    refine w_setL h3 (ixN_nat (by rw [List.length_map]; omega)) rfl ?_
    walk_at "cwd"
    rename_i q hq t ht
    have ea : d.ask x = ({ d with seen := d.seen.set (d.here.idxOf (some x)) true }, ⟨false, none, []⟩) := by unfold Dl.ask; rw [if_pos e]
    rw [ea] at k
    have hq0 : H q = none := upd_none hq
    have ht0 : H t = none := upd_none (upd_none ht)
    have ntq : q ≠ t := ne_of_none upd_same ht
    have nq : ∀ c o, H c = some o → c ≠ q := fun c o h => ne_of_none h hq0
    have nt : ∀ c o, H c = some o → c ≠ t := fun c o h => ne_of_none h ht0
    refine k t q _ (((Fr.at (by simp)).trans (Fr.new hq)).trans (Fr.new ht)) ⟨?_, ?_, ?_⟩ ht0 hq0 upd_same ?_
    · rw [upd_ne (nt p _ h1), upd_ne (nq p _ h1), upd_ne npb]; exact h1
    · rw [upd_ne (nt a _ h2), upd_ne (nq a _ h2), upd_ne nab]; exact h2
    · rw [upd_ne (nt b _ h3), upd_ne (nq b _ h3), upd_same, List.map_set]
    · rw [upd_ne ntq]; exact upd_same
  · walk_at "cwd"
    rename_i q hq
    have npq : p ≠ q := ne_of_none h1 hq
    have naq : a ≠ q := ne_of_none h2 hq
    have nbq : b ≠ q := ne_of_none h3 hq
    have nqb : q ≠ b := ne_s nbq
    have nqp : q ≠ p := ne_s npq
    refine w_cut (fun σ H' => ∃ v, σ = [some (.ref p), some (.int x), some (.int n), some (.ref q), some (.int d.spin.2.1), v] ∧ Fr [p, a, b] H H' ∧ H' p = some (.dK (ddl a b d.hand d.lacks)) ∧ H' a = some (.lst (d.here.map oV)) ∧
      H' b = some (.lst (d.spin.1.map V.bl)) ∧ H' q = some (.lst (natsV d.spin.2.2))) ?_ ?_
    · refine f_while (fun m σ H' => ∃ (sc : List Bool) (hc : Nat) (pc : List Nat), m = sc.count true ∧ σ = [some (.ref p), some (.int x), some (.int n), some (.ref q), some (.int hc), none] ∧ Fr [p, a, b] H H' ∧
        H' p = some (.dK (ddl a b d.hand d.lacks)) ∧ H' a = some (.lst (d.here.map oV)) ∧ H' b = some (.lst (sc.map V.bl)) ∧ H' q = some (.lst (natsV pc)) ∧ sc.length = n ∧ hc < n ∧ pc.length + sc.count true ≤ 8 ∧
        ((Cw.spin n (sc.count true) sc hc).1, (Cw.spin n (sc.count true) sc hc).2.1, pc ++ (Cw.spin n (sc.count true) sc hc).2.2) = d.spin)
        (d.seen.count true) ⟨d.seen, d.hand, [], rfl, by rw [hml]; rfl, Fr.new hq, ?_, ?_, ?_, upd_same, sl, hd, ?_, ?_⟩ ?_
      · rw [upd_ne npq]; exact h1
      · rw [upd_ne naq]; exact h2
      · rw [upd_ne nbq]; exact h3
      · have := List.count_le_length (a := true) (l := d.seen)
        simp
        omega
      · unfold Dl.spin
        rw [hl]
        simp
      rintro m σ H1 ⟨sc, hc, pc, rfl, rfl, F, g1, g2, g3, g4, cl, ch, cz, ce⟩
      have sat : atI (sc.map V.bl) (hc : Int) = some (.bl sc[hc]) := atI_nat (by rw [List.getElem?_map, List.getElem?_eq_getElem (by omega)]; rfl)
      have gs : sc[hc]? = some sc[hc] := List.getElem?_eq_getElem (by omega)
      walk_at "cwd"
      walk_at "cw if" <;> intro e2
      · rw [e2] at gs
        walk_at "cwd"
        refine w_turn ?_
        have co := count_off gs
        have go := spin_go (n := n) gs
        walk_at "cwd"
        refine w_setL g3 (ixN_nat (by rw [List.length_map]; omega)) List.map_set.symm ?_
        walk_at "cwd"
        refine w_append (xs := natsV pc) (by walk_at "cw at") (sz_lt (by simp [natsV]; omega)) ?_
        walk_at "cwd"
        have em : ((hc : Int) + 1) % (n : Int) = (((hc + 1) % n : Nat) : Int) := by rw [Int.natCast_emod, Int.natCast_add]; rfl
        rw [go] at ce
        refine ⟨(sc.set hc false).count true, by omega, sc.set hc false, (hc + 1) % n, pc ++ [hc], rfl, by rw [em]; rfl, ?_, ?_, ?_, ?_, ?_, by simp [cl], Nat.mod_lt _ n0, by simp; omega, ?_⟩
        · exact (F.trans (Fr.at (by simp))).comp (W1 := [q]) (Fr.at (by simp)) (by simp [hq])
        · rw [upd_ne npq, upd_ne npb]; exact g1
        · rw [upd_ne naq, upd_ne nab]; exact g2
        · rw [upd_ne nbq, upd_same]
        · rw [upd_same]; simp [natsV]
        · rw [← ce]; simp
      · walk_at "cwd"
        have z : ¬ sc[hc]? = some true := by rw [gs, e2]; simp
        rw [spin_stop z] at ce
        rw [← ce]
        exact ⟨none, rfl, F, g1, g2, g3, by simpa using g4⟩
    · rintro σ H1 ⟨v, rfl, F, g1, g2, g3, g4⟩
      have hf := spin_facts n0 (d.seen.count true) d.seen d.hand (Nat.le_refl _) sl hd
      have es : d.spin = Cw.spin n (d.seen.count true) d.seen d.hand := by unfold Dl.spin; rw [hl]
      rw [← es] at hf
      obtain ⟨f1, f2, f3, f4⟩ := hf
      have hat : atI (d.here.map oV) (d.spin.2.1 : Int) = some (oV (d.here[d.spin.2.1]?).join) := atI_nat (by rw [List.getElem?_map, List.getElem?_eq_getElem (by omega)]; rfl)
      walk_at "cwd"
      refine w_setL g2 (ixN_nat (by rw [List.length_map]; omega)) (show (d.here.map oV).set d.spin.2.1 (oV (some x)) = _ from List.map_set.symm) ?_
      walk_at "cwd"
      refine w_setL (xs := d.spin.1.map V.bl) (by walk_at "cw at") (ixN_nat (by rw [List.length_map]; omega)) List.map_set.symm ?_
      walk_at "cwd"
      rename_i t ht
      have em : ((d.spin.2.1 : Int) + 1) % (n : Int) = (((d.spin.2.1 + 1) % d.here.length : Nat) : Int) := by rw [hl, Int.natCast_emod, Int.natCast_add]; rfl
      have ea : d.ask x = (⟨d.here.set d.spin.2.1 (some x), d.spin.1.set d.spin.2.1 true, (d.spin.2.1 + 1) % d.here.length, d.lacks + 1⟩, ⟨true, (d.here[d.spin.2.1]?).join, d.spin.2.2⟩) := by unfold Dl.ask; rw [if_neg e]
      rw [ea] at k
      have ht1 : H1 t = none := upd_none (upd_none (upd_none (upd_none ht)))
      have ntp : p ≠ t := ne_of_none g1 ht1
      have nta : a ≠ t := ne_of_none g2 ht1
      have ntb : b ≠ t := ne_of_none g3 ht1
      have ntq : q ≠ t := ne_of_none g4 ht1
      refine k t q _ (((((F.trans (Fr.at (by simp))).trans (Fr.at (by simp))).trans (Fr.at (by simp))).trans (Fr.at (by simp))).trans (Fr.new ht)) ⟨?_, ?_, ?_⟩ (F.free ht1) hq upd_same ?_
      · rw [upd_ne ntp, upd_same, em]; rfl
      · rw [upd_ne nta, upd_ne (ne_s npa), upd_ne (ne_s npa), upd_ne nab, upd_same]
      · rw [upd_ne ntb, upd_ne (ne_s npb), upd_ne (ne_s npb), upd_same]
      · rw [upd_ne ntq, upd_ne (ne_s npq), upd_ne (ne_s npq), upd_ne (ne_s nbq), upd_ne (ne_s naq)]; exact g4

/-! _law_lacks -/
def sp_l_lacks (K : PySem.W.Frag) : Sp := fun vs H Q _ => ∃ (n : Int) (a : Addr) (z : Str) (ns : List Int), vs = [.int n, .ref a, .str z] ∧ 1 ≤ n ∧ n ≤ 8 ∧ IsRule z ∧ SqL K H a (ns.map V.int) ∧ RowOk ns ∧
  ∀ p H', Fr [] H H' → H p = none → H' p = some (.lst ((places (lackB n.toNat z ns)).map V.int)) → Q (.ref p) H'
theorem c_lacks {H : Hp} {Q : VK} {E : XK} {n : Int} {a : Addr} {z : Str} {ns : List Int} (n0 : 1 ≤ n) (n8 : n ≤ 8) (hz : IsRule z) (h : SqL K H a (ns.map V.int)) (hR : RowOk ns)
    (k : ∀ p H', Fr [] H H' → H p = none → H' p = some (.lst ((places (lackB n.toNat z ns)).map V.int)) → Q (.ref p) H') : sp_l_lacks K ([.int n, .ref a, .str z] ++ []) H Q E := ⟨n, a, z, ns, rfl, n0, n8, hz, h, hR, k⟩
/-- the state of a turn: behind the ways of a page kept or not -/
def lacksI (H0 : Hp) (n : Int) (a : Addr) (z : Str) (p x y : Addr) (d : Dl) (kept : List Int) (out : List Int) (v6 v7 v8 : Option V) : L2.St → Hp → Prop := fun σ H => ∃ (kp fp : Addr) (v9 : Option V),
  σ = [some (.int n), some (.ref a), some (.str z), some (.ref p), some (.ref kp), some (.ref fp), v6, v7, v8, v9] ∧ Fr [] H0 H ∧ LDial H p x y d ∧ H0 kp = none ∧ H0 fp = none ∧ kp ∉ [p, x, y] ∧ fp ∉ [p, x, y] ∧
  H kp = some (.lst (kept.map V.int)) ∧ H fp = some (.lst (out.map V.int))
theorem ok_l_lacks (T : Txt K mg ad) : FnOk P w K mg base CX0 2 ad.a_l_lacks ad.d_l_lacks ["_law_rooms", "_law_row_here", "_law_rule"] (sp_l_lacks K) := by
  refine T.F_l_lacks.ok sc_l_lacks (fun vs H Q E h => ?_) (fun cdv A outer s H vs Q E hr h => ?_)
  · obtain ⟨n, a, z, ns, rfl, _⟩ := h
    rfl
  obtain ⟨n, a, z, ns, rfl, n0, n8, hz, hS, hR, k⟩ := h
  have hu := hu_of hr
  refine ⟨_, (pss_cons (ps_set (i := 3) sc_l_lacks.nd rfl (by first | exact Or.inl rfl | exact Or.inr rfl) (pe_call (ok_l_dial T) (hr.mono (by decide)) (by rfl) T.m_l_dial T.F_l_dial.kp T.b_l_dial .nil pass0 (pa_cons (pv 0) pa_nil)))
    (pss_cons (ps_set (i := 4) sc_l_lacks.nd rfl (by first | exact Or.inl rfl | exact Or.inr rfl) (pe_lst pa_nil))
    (pss_cons (ps_set (i := 5) sc_l_lacks.nd rfl (by first | exact Or.inl rfl | exact Or.inr rfl) (pe_lst pa_nil))
    (pss_cons (ps_for PassesOwn.never rfl (pi_range1 (by rfl) T.z_range (pa_cons (pe_callB (kLen K rfl) (by rfl) T.z_len (by decide +kernel) (pa_cons (pv 1) pa_nil)) pa_nil)) (pg_name (i := 6) sc_l_lacks.nd rfl (by first | exact Or.inl rfl | exact Or.inr rfl)) (pss_cons (ps_set (i := 7) sc_l_lacks.nd rfl (by first | exact Or.inl rfl | exact Or.inr rfl) (pe_ix (kIxL K rfl) (pv 1) (pv 6) (fun _ _ => rfl)))
    (pss_cons (ps_set (i := 8) sc_l_lacks.nd rfl (by first | exact Or.inl rfl | exact Or.inr rfl) (pe_cmpR (kNi K rfl) (pv 7) (pv 4) (by with_unfolding_all rfl)))
    (C8.pss_cut (ps_if (pt_cmpR op_eq (pv 2) pe_str (nomark _)) (pss_one (ps_set (i := 8) sc_l_lacks.nd rfl (by first | exact Or.inl rfl | exact Or.inr rfl) (pe_ix (kIxT K rfl) (pe_call (ok_l_ask T) (hr.mono (by decide)) (by rfl) T.m_l_ask T.F_l_ask.kp T.b_l_ask .nil pass0 (pa_cons (pv 3) (pa_cons (pv 7) pa_nil))) pe_int (fun _ _ => rfl)))) (pss_one (ps_if (pt_val (pv 8)) (pss_one (ps_set (i := 4) sc_l_lacks.nd rfl (by first | exact Or.inl rfl | exact Or.inr rfl) (pe_op op_cat (pe_slice (kSlL K rfl) (pv 4) (po_some (pe_callTy cr_int (by rfl) T.z_int (by decide +kernel) (pa_cons (pe_cmpR op_eq (pe_callB (kLen K rfl) (by rfl) T.z_len (by decide +kernel) (pa_cons (pv 4) pa_nil)) (pv 0) (nomark _)) pa_nil))) po_none) (pe_lst (pa_cons (pv 7) pa_nil))))) (pss_one (ps_if (pt_cmpR op_eq (pv 2) pe_str (nomark _)) (pss_one (ps_set (i := 4) sc_l_lacks.nd rfl (by first | exact Or.inl rfl | exact Or.inr rfl) (pe_op op_cat (pe_lc (own := [("_law_one", 9)]) (by rfl) sc_l_lacks.nd (kIL (K := K) rfl (pi_list (pv 4))) (blkOk_by (own := [("_law_one", 9)]) (N := N_l_lacks) (sc := defScope s_l_lacks) (by decide +kernel)) (fun _ _ _ _ _ => (pg_name (i := 9) sc_l_lacks.nd rfl (by first | exact Or.inl rfl | exact Or.inr rfl))) (fun _ _ _ _ _ => pts_one (pt_cmpR op_ne (pv 9) (pv 7) (nomark _))) (fun _ _ _ _ _ => (pv 9))) (pe_lst (pa_cons (pv 7) pa_nil))))) pss_nil)))))
    (pss_one (ps_set (i := 5) sc_l_lacks.nd rfl (by first | exact Or.inl rfl | exact Or.inr rfl) (pe_op op_cat (pv 5) (pe_op op_rep (pe_lst (pa_cons (pv 6) pa_nil)) (pe_callTy cr_int (by rfl) T.z_int (by decide +kernel) (pa_cons (pv 8) pa_nil))))))))))
    (pss_one (ps_ret (pv 5))))))), ?_⟩
  walk_at "cwd"
  refine c_dial n0 n8 fun p x y H1 f1 hp hx hy npx npy nxy D1 => ?_
  obtain ⟨d1, d2, d3⟩ := id D1
  walk_at "cwd"
  rename_i kp hkp fp hfp
  have fre : ∀ q, H1 q = none → q ∉ [p, x, y] := fun q hq => by
    simp only [List.mem_cons, List.not_mem_nil, or_false, not_or]
    exact ⟨fun e => ne_of_none d1 hq e.symm, fun e => ne_of_none d2 hq e.symm, fun e => ne_of_none d3 hq e.symm⟩
  have nkf : kp ≠ fp := ne_of_none upd_same hfp
  have F2 : Fr [] H1 (upd (upd H1 kp (.lst [])) fp (.lst [])) := (Fr.new hkp).trans (Fr.new hfp)
  have hlen := hR.1
  have hp0 := hp
  have hx0 := hx
  have hy0 := hy
  refine f_rng1 (by simp; omega) (by omega) (fun i σ H' => ∃ v6 v7 v8, lacksI H n a z p x y (lkD n.toNat z (ns.take i)) (lkK n.toNat z (ns.take i)) (places (lackB n.toNat z (ns.take i))) v6 v7 v8 σ H')
    ⟨none, none, none, kp, fp, none, rfl, f1.trans F2, ?_, f1.free hkp, f1.free (upd_none hfp), fre kp hkp, fre fp (upd_none hfp), ?_, ?_⟩ ?_ ?_
  · have e : lkD n.toNat z (ns.take 0) = Dl.new n.toNat := by unfold lkD; split <;> rfl
    rw [e]
    exact D1.keep F2 (by simp) (by simp) (by simp)
  · rw [upd_ne nkf, upd_same]
    have e : lkK n.toNat z (ns.take 0) = [] := by unfold lkK; split <;> rfl
    rw [e]; rfl
  · rw [upd_same]
    have e : places (lackB n.toNat z (ns.take 0)) = [] := by unfold lackB; split <;> rfl
    rw [e]; rfl
  · rintro i σ H' hi ⟨v6, v7, v8, kp, fp, v9, rfl, F, D, hkp, hfp, nkp, nfp, g1, g2⟩
    have hil : i < ns.length := by simp at hi; exact hi
    obtain ⟨w, hw⟩ : ∃ w, ns[i]? = some w := ⟨ns[i], List.getElem?_eq_getElem hil⟩
    have hat : atI (ns.map V.int) (i : Int) = some (.int w) := atI_nat (by rw [List.getElem?_map, hw]; rfl)
    have hsq := F.seqL hS
    have hK := lkK_ok (rooms := n.toNat) (by omega) z (ns.take i)
    have hW := lkD_wf (rooms := n.toNat) (by omega) (by omega) z (ns.take i)
    have hbl : (lackB n.toNat z (ns.take i)).length = i := by rw [lackB_len, List.length_take]; omega
    rw [take_snoc hw, lkD_snoc, lkK_snoc, lackB_snoc, places_snoc, hbl]
    walk_at "cwd"
    refine w_cut (lacksI H n a z p x y (lkD n.toNat z (ns.take i ++ [w])) (lkK n.toNat z (ns.take i ++ [w])) (places (lackB n.toNat z (ns.take i))) (some (.int i)) (some (.int w)) (some (.bl (lkB n.toNat z (ns.take i) w)))) ?_ ?_
    · rw [lkD_snoc, lkK_snoc]
      unfold lkB
      generalize lkD n.toNat z (ns.take i) = d at *
      generalize lkK n.toNat z (ns.take i) = kept at *
      generalize hout : places (lackB n.toNat z (ns.take i)) = out at *
      walk_at "cwd"
      walk_at "cw if" <;> intro e
      · rw [if_pos e, if_pos e, if_pos e]
        walk_at "cwd"
        refine c_ask D hW npx npy nxy fun t q H2 f2 D2 ht hq e1 e2 => ?_
        have e1' : H2 t = some (.tup [.bl (d.ask w).2.lack, oV (d.ask w).2.gone, .ref q]) := e1
        walk_at "cwd"
        exact ⟨kp, fp, v9, rfl, F.comp f2 (by simp [hp0, hx0, hy0]), D2, hkp, hfp, nkp, nfp, f2.get g1 nkp, f2.get g2 nfp⟩
      · rw [if_neg e, if_neg e, if_neg e]
        walk_at "cwd"
        walk_at "cw if" <;> intro e2
        · have ek : keepS n.toNat (decide (z = Str.ofString "unseen")) kept w = kept.drop (if kept.length = n.toNat then 1 else 0) ++ [w] := by unfold keepS; rw [if_neg e2]
          rw [ek]
          walk_at "cwd"
          rename_i p1 hp1 p2 hp2
          have ec : cutV (kept.map V.int) (some (if decide ((((kept.map V.int).length : Nat) : Int) = n) = true then 1 else 0)) none = (kept.drop (if kept.length = n.toNat then 1 else 0)).map V.int := by
            by_cases hn : kept.length = n.toNat
            · rw [if_pos hn, if_pos (decide_eq_true (by rw [List.length_map]; omega)), List.map_drop]
              exact cut_from _ 1
            · rw [if_neg hn, if_neg (by simp; omega), List.map_drop]
              exact cut_from _ 0
          rw [ec] at hp2 ⊢
          have n12 : p1 ≠ p2 := ne_of_none upd_same hp2
          have hle := hK.le
          refine w_cat (xs := (kept.drop (if kept.length = n.toNat then 1 else 0)).map V.int) (by rw [upd_ne n12]; exact upd_same) upd_same (sz_le (by simp; omega)) fun p3 hp3 => ?_
          walk_at "cwd"
          have h3' : H' p3 = none := upd_none (upd_none hp3)
          have F3 := ((Fr.new hp1 : Fr [] H' _).trans (Fr.new hp2)).trans (Fr.new hp3 (o := .lst ((kept.drop (if kept.length = n.toNat then 1 else 0)).map V.int ++ [V.int w])))
          refine ⟨p3, fp, v9, rfl, F.trans F3, D.keep F3 (by simp) (by simp) (by simp), F.free h3', hfp, ?_, nfp, upd_same.trans (by rw [List.map_append]; rfl), F3.get g2 (by simp)⟩
          simp only [List.mem_cons, List.not_mem_nil, or_false, not_or]
          exact ⟨fun e => ne_of_none D.1 h3' e.symm, fun e => ne_of_none D.2.1 h3' e.symm, fun e => ne_of_none D.2.2 h3' e.symm⟩
        · have e2' : w ∈ kept := Decidable.not_not.mp e2
          walk_at "cwd"
          walk_at "cw if" <;> intro e3
          · have ek : keepS n.toNat (decide (z = Str.ofString "unseen")) kept w = kept.erase w ++ [w] := by unfold keepS; rw [if_pos e2', if_pos (decide_eq_true e3)]
            rw [ek]
            walk_at "cwd"
            refine l_list (kept.map V.int) (SqL.of g1) (fun D i acc H2 => Fr [] H' H2 ∧ acc = ((kept.take i).filter fun y => decide (y ≠ w)).map V.int) (fun D hD => ⟨Fr.new hD, rfl⟩) (fun D i acc H2 hD h _ => SqL.of (h.1.get0 g1)) ?_ ?_
            · rintro C j y' acc H2 hC hj ⟨F2, rfl⟩ hacc hl
              obtain ⟨u, hu', rfl⟩ := int_at hj
              have hjl := (List.getElem?_eq_some_iff.mp hu').1
              have hle := hK.le
              walk_at "cwd"
              walk_at "cw if" <;> intro e4
              · walk_at "cwd"
                exact lc_end hacc hl (by omega) ⟨F2.loc hC, by rw [take_snoc hu', List.filter_append, List.map_append, List.filter_cons_of_pos (by simp [e4])]; rfl⟩
              · exact ⟨_, ⟨F2, by rw [take_snoc hu', List.filter_append, List.filter_cons_of_neg (by simp [e4])]; simp⟩, hacc, by omega⟩
            rintro C acc H2 hC ⟨F2, rfl⟩ hacc hl
            rw [List.length_map, List.take_length, ← erase_filter hK.nd] at hacc
            walk_at "cwd"
            rename_i p2 hp2
            have hle := hK.le
            have hel := List.length_erase_of_mem e2'
            refine w_cat (xs := (kept.erase w).map V.int) (by rw [upd_ne (ne_of_none hacc hp2)]; exact hacc) upd_same (sz_le (by simp; omega)) fun p3 hp3 => ?_
            walk_at "cwd"
            have h3' : H' p3 = none := F2.free (upd_none hp3)
            have F3 := (F2.trans (Fr.new hp2)).trans (Fr.new hp3 (o := .lst ((kept.erase w).map V.int ++ [V.int w])))
            refine ⟨p3, fp, v9, rfl, F.trans F3, D.keep F3 (by simp) (by simp) (by simp), F.free h3', hfp, ?_, nfp, upd_same.trans (by rw [List.map_append]; rfl), F3.get g2 (by simp)⟩
            simp only [List.mem_cons, List.not_mem_nil, or_false, not_or]
            exact ⟨fun e => ne_of_none D.1 h3' e.symm, fun e => ne_of_none D.2.1 h3' e.symm, fun e => ne_of_none D.2.2 h3' e.symm⟩
          · have ek : keepS n.toNat (decide (z = Str.ofString "unseen")) kept w = kept := by unfold keepS; rw [if_pos e2', if_neg (by simp [e3])]
            rw [ek]
            walk_at "cwd"
            exact ⟨kp, fp, v9, rfl, F, D, hkp, hfp, nkp, nfp, g1, g2⟩
    rintro σ H2 ⟨kp, fp, v9, rfl, F, D, hkp, hfp, nkp, nfp, g1, g2⟩
    have hpl := places_len (lackB n.toNat z (ns.take i))
    rw [hbl] at hpl
    rw [lkD_snoc] at D
    rw [lkK_snoc] at g1
    generalize lkB n.toNat z (ns.take i) w = b at *
    generalize places (lackB n.toNat z (ns.take i)) = out at *
    walk_at "cwd"
    rename_i q1 hq1
    refine w_rep1 upd_same (by split <;> omega) (by split <;> omega) fun q2 hq2 => ?_
    have e0 : List.replicate (if b = true then (1 : Int) else 0).toNat (V.int (i : Int)) = (if b = true then [(i : Int)] else []).map V.int := by cases b <;> rfl
    rw [e0]
    have nf1 : fp ≠ q1 := ne_of_none g2 hq1
    have nf2 : fp ≠ q2 := ne_of_none ((upd_ne nf1).trans g2) hq2
    refine w_cat (xs := out.map V.int) (by rw [upd_ne nf2, upd_ne nf1]; exact g2) upd_same (sz_le ?_) fun q3 hq3 => ?_
    · rw [List.length_map, List.length_map]
      split
      · simp; omega
      · simp; omega
    walk_at "cwd"
    have hq3' : H2 q3 = none := upd_none (upd_none hq3)
    have F3 : Fr [] H2 (upd (upd (upd H2 q1 (.lst [.int (i : Int)])) q2 (.lst ((if b = true then [(i : Int)] else []).map V.int))) q3 (.lst (out.map V.int ++ (if b = true then [(i : Int)] else []).map V.int))) := ((Fr.new hq1).trans (Fr.new hq2)).trans (Fr.new hq3)
    refine ⟨_, _, _, kp, q3, v9, rfl, F.trans F3, D.keep F3 (by simp) (by simp) (by simp), hkp, F.free hq3', nkp, ?_, F3.get g1 (by simp), upd_same.trans (by rw [List.map_append])⟩
    simp only [List.mem_cons, List.not_mem_nil, or_false, not_or]
    exact ⟨fun e => ne_of_none D.1 hq3' e.symm, fun e => ne_of_none D.2.1 hq3' e.symm, fun e => ne_of_none D.2.2 hq3' e.symm⟩
  · rintro σ H' ⟨v6, v7, v8, kp, fp, v9, rfl, F, D, hkp, hfp, nkp, nfp, g1, g2⟩
    walk_at "cwd"
    have e : ns.take ((((ns.map V.int).length : Nat) : Int)).toNat = ns := List.take_of_length_le (by simp)
    rw [e] at g2
    exact k fp H' F hfp g2

/-! _law_parts -/
def sp_l_parts (K : PySem.W.Frag) : Sp := fun vs H Q _ => ∃ (n : Int) (a : Addr) (ns : List Int), vs = [.int n, .ref a] ∧ 1 ≤ n ∧ n ≤ 8 ∧ SqL K H a (ns.map V.int) ∧ ns.length ≤ 100 ∧
  ∀ p xs H', Fr [] H H' → H p = none → H' p = some (.lst xs) → PairsAt H H' xs (parts n.toNat ns) → Q (.ref p) H'
theorem c_parts {H : Hp} {Q : VK} {E : XK} {n : Int} {a : Addr} {ns : List Int} (n0 : 1 ≤ n) (n8 : n ≤ 8) (h : SqL K H a (ns.map V.int)) (hl : ns.length ≤ 100)
    (k : ∀ p xs H', Fr [] H H' → H p = none → H' p = some (.lst xs) → PairsAt H H' xs (parts n.toNat ns) → Q (.ref p) H') : sp_l_parts K ([.int n, .ref a] ++ []) H Q E := ⟨n, a, ns, rfl, n0, n8, h, hl, k⟩
def partsI (H0 : Hp) (n : Int) (a f : Addr) (b : Int) (out : List (Int × Int)) (pages : List Int) (v : Option V) : L2.St → Hp → Prop := fun σ H => ∃ (pp : Addr) (xs : List V), σ = [some (.int n), some (.ref a), some (.ref f), some (.ref pp), some (.int b), v] ∧
  Fr [] H0 H ∧ H0 pp = none ∧ pp ≠ f ∧ H f = some (.lst xs) ∧ PairsAt H0 H xs out ∧ H pp = some (.lst (pages.map V.int))
theorem ok_l_parts (T : Txt K mg ad) : FnOk P w K mg base CX0 1 ad.a_l_parts ad.d_l_parts ["_law_rooms", "_law_row_here"] (sp_l_parts K) := by
  refine T.F_l_parts.ok sc_l_parts (fun vs H Q E h => ?_) (fun cdv A outer s H vs Q E hr h => ?_)
  · obtain ⟨n, a, ns, rfl, _⟩ := h
    rfl
  obtain ⟨n, a, ns, rfl, n0, n8, hS, hl, k⟩ := h
  refine ⟨_, (pss_cons (ps_set (i := 2) sc_l_parts.nd rfl (by first | exact Or.inl rfl | exact Or.inr rfl) (pe_lst pa_nil))
    (pss_cons (ps_set (i := 3) sc_l_parts.nd rfl (by first | exact Or.inl rfl | exact Or.inr rfl) (pe_lst pa_nil))
    (pss_cons (ps_set (i := 4) sc_l_parts.nd rfl (by first | exact Or.inl rfl | exact Or.inr rfl) pe_int)
    (pss_cons (ps_for PassesOwn.never rfl (pi_range1 (by rfl) T.z_range (pa_cons (pe_callB (kLen K rfl) (by rfl) T.z_len (by decide +kernel) (pa_cons (pv 1) pa_nil)) pa_nil)) (pg_name (i := 5) sc_l_parts.nd rfl (by first | exact Or.inl rfl | exact Or.inr rfl)) (C8.pss_cut (ps_if (PW.pt (pw_and (pt_cmpR (kNi K rfl) (pe_ix (kIxL K rfl) (pv 1) (pv 5) (fun _ _ => rfl)) (pv 3) (by with_unfolding_all rfl)) (pw_and1 (pt_cmpR op_eq (pe_callB (kLen K rfl) (by rfl) T.z_len (by decide +kernel) (pa_cons (pv 3) pa_nil)) (pv 0) (nomark _))))) (pss_cons (ps_expr (kBM (K := K) rfl (pe_bm PySem.F.plainAttrs_list PySem.F.slot_list_append PySem.F.type_list_append mt_append (pv 2) (pa_cons (pe_tup (pa_cons (pv 4) (pa_cons (pv 5) pa_nil))) pa_nil))))
    (pss_cons (ps_set (i := 4) sc_l_parts.nd rfl (by first | exact Or.inl rfl | exact Or.inr rfl) (pv 5))
    (pss_one (ps_set (i := 3) sc_l_parts.nd rfl (by first | exact Or.inl rfl | exact Or.inr rfl) (pe_lst pa_nil))))) pss_nil)
    (pss_one (ps_if (pt_cmpR (kNi K rfl) (pe_ix (kIxL K rfl) (pv 1) (pv 5) (fun _ _ => rfl)) (pv 3) (by with_unfolding_all rfl)) (pss_one (ps_expr (kBM (K := K) rfl (pe_bm PySem.F.plainAttrs_list PySem.F.slot_list_append PySem.F.type_list_append mt_append (pv 3) (pa_cons (pe_ix (kIxL K rfl) (pv 1) (pv 5) (fun _ _ => rfl)) pa_nil))))) pss_nil))))
    (pss_one (ps_ret (pe_op op_cat (pv 2) (pe_op op_rep (pe_lst (pa_cons (pe_tup (pa_cons (pv 4) (pa_cons (pe_callB (kLen K rfl) (by rfl) T.z_len (by decide +kernel) (pa_cons (pv 1) pa_nil)) pa_nil))) pa_nil)) (pe_callTy cr_int (by rfl) T.z_int (by decide +kernel) (pa_cons (pe_cmpR (kNeD K rfl hr.units) (pv 1) (pe_lst pa_nil) (nomark _)) pa_nil)))))))))), ?_⟩
  walk_at "cws"
  rename_i f hf pp hpp
  have hml : (ns.map V.int).length = ns.length := List.length_map _
  have hf0 := hf
  refine f_rng1 (by omega) (by omega) (fun i σ H' => ∃ v, partsI H n a f (cst n.toNat (ns.take i)).b (cst n.toNat (ns.take i)).out (firsts (cst n.toNat (ns.take i)).seg) v σ H')
    ⟨none, pp, [], rfl, (Fr.new hf).trans (Fr.new hpp), upd_none hpp, ne_s (ne_of_none upd_same hpp), (upd_ne (ne_of_none upd_same hpp)).trans upd_same, .nil, upd_same⟩ ?_ ?_
  · rintro i σ H2 hi ⟨v, pp, xs, rfl, F, hpp, npf, g1, gp, g2⟩
    have hil : i < ns.length := by omega
    obtain ⟨x, hx⟩ : ∃ x, ns[i]? = some x := ⟨ns[i], List.getElem?_eq_getElem hil⟩
    have hat : atI (ns.map V.int) (i : Int) = some (.int x) := atI_nat (by rw [List.getElem?_map, hx]; rfl)
    have hsq := F.seqL hS
    obtain ⟨c1, c2, c3, c4, c5, c6, c7⟩ := cst_ok (rooms := n.toNat) (by omega) (ns.take i)
    have cn : (cst n.toNat (ns.take i)).n = i := by rw [c1, List.length_take]; omega
    have hxl : xs.length ≤ 100 := by
      have := gp.1
      omega
    rw [take_snoc hx, cst_snoc]
    generalize cst n.toNat (ns.take i) = s at *
    walk_at "cws"
    refine w_cut (partsI H n a f (if x ∉ firsts s.seg ∧ (firsts s.seg).length = n.toNat then (i : Int) else s.b) (if x ∉ firsts s.seg ∧ (firsts s.seg).length = n.toNat then s.out ++ [((s.b : Int), (i : Int))] else s.out)
      (if x ∉ firsts s.seg ∧ (firsts s.seg).length = n.toNat then [] else firsts s.seg) (some (.int i))) ?_ ?_
    · walk_at "cws"
      walk_at "cw if" <;> intro e
      · walk_at "cws"
        walk_at "cw if" <;> intro e2
        · have e3 : x ∉ firsts s.seg ∧ (firsts s.seg).length = n.toNat := ⟨e, by rw [List.length_map] at e2; omega⟩
          rw [if_pos e3, if_pos e3, if_pos e3]
          walk_at "cws"
          rename_i p hp p2 hp2
          have hpf : p ≠ f := ne_n' hp g1
          have h2f : p2 ≠ f := ne_n' hp2 upd_same
          have Fz : Fr [] H (upd (upd (upd H2 p (.tup [.int s.b, .int i])) f (.lst (xs ++ [.ref p]))) p2 (.lst [])) := ((F.trans (Fr.new hp)).loc hf0).trans (Fr.new hp2)
          refine ⟨p2, xs ++ [.ref p], rfl, Fz, ?_, h2f, (upd_ne (ne_s h2f)).trans upd_same, ?_, upd_same⟩
          · exact (F.free (upd_none (upd_none hp2)))
          · refine PairsAt.fr (W := []) (H' := upd (upd H2 p (.tup [.int s.b, .int i])) f (.lst (xs ++ [.ref p]))) ?_ (Fr.new hp2) (by simp)
            refine PairsAt.snoc ?_ (F.free hp) ((upd_ne hpf).trans upd_same)
            refine (gp.fr (Fr.new (W := []) hp) (by simp)).fr (W := [f]) (Fr.at (List.mem_singleton.mpr rfl)) fun w hw => ?_
            rw [List.mem_singleton.mp hw]
            exact ⟨xs, (upd_ne (ne_s hpf)).trans g1⟩
        · have e3 : ¬ (x ∉ firsts s.seg ∧ (firsts s.seg).length = n.toNat) := fun z => e2 (by rw [List.length_map]; omega)
          rw [if_neg e3, if_neg e3, if_neg e3]
          walk_at "cws"
          exact ⟨pp, xs, rfl, F, hpp, npf, g1, gp, g2⟩
      · have e3 : ¬ (x ∉ firsts s.seg ∧ (firsts s.seg).length = n.toNat) := fun z => e z.1
        rw [if_neg e3, if_neg e3, if_neg e3]
        walk_at "cws"
        exact ⟨pp, xs, rfl, F, hpp, npf, g1, gp, g2⟩
    · rintro σ H3 ⟨pp, xs, rfl, F, hpp, npf, g1, gp, g2⟩
      have hsq := F.seqL hS
      by_cases e3 : x ∉ firsts s.seg ∧ (firsts s.seg).length = n.toNat
      · rw [if_pos e3] at g2 gp ⊢
        have es : cstep n.toNat s x = ⟨s.out ++ [((s.b : Int), (s.n : Int))], s.n, [x], s.n + 1⟩ := if_pos e3
        rw [es, cn]
        walk_at "cws"
        refine ite_dT (by simp) ?_
        walk_at "cws"
        exact ⟨some (.int i), pp, xs, rfl, F.loc hpp, hpp, npf, (upd_ne (ne_s npf)).trans g1, gp.fr (W := [pp]) (Fr.at (List.mem_singleton.mpr rfl)) (fun w hw => by rw [List.mem_singleton.mp hw]; exact ⟨_, g2⟩), upd_same⟩
      · rw [if_neg e3] at g2 gp ⊢
        have es : cstep n.toNat s x = ⟨s.out, s.b, s.seg ++ [x], s.n + 1⟩ := if_neg e3
        rw [es]
        show tIfS _ _ _ ⟨fun σ H' => ∃ v, partsI H n a f s.b s.out (firsts (s.seg ++ [x])) v σ H', _, _, _⟩ _ _
        walk_at "cws"
        have hfl := firsts_len_le s.seg
        have hsl : s.seg.length ≤ 100 := by rw [c3, List.length_drop, List.length_take]; omega
        walk_at "cw if" <;> intro e4
        · walk_at "cws"
          refine ⟨some (.int i), pp, xs, rfl, F.loc hpp, hpp, npf, (upd_ne (ne_s npf)).trans g1, gp.fr (W := [pp]) (Fr.at (List.mem_singleton.mpr rfl)) (fun w hw => by rw [List.mem_singleton.mp hw]; exact ⟨_, g2⟩), ?_⟩
          rw [firsts_snoc, show add1 (firsts s.seg) x = firsts s.seg ++ [x] from if_neg e4, List.map_append]
          exact upd_same
        · walk_at "cws"
          refine ⟨some (.int i), pp, xs, rfl, F, hpp, npf, g1, gp, ?_⟩
          rw [firsts_snoc, show add1 (firsts s.seg) x = firsts s.seg from if_pos (Classical.not_not.mp e4)]
          exact g2
  · rintro σ H2 ⟨v, pp, xs, rfl, F, hpp, npf, g1, gp, g2⟩
    have e : ns.take ((((ns.map V.int).length : Nat) : Int)).toNat = ns := List.take_of_length_le (by omega)
    rw [e] at gp g2 ⊢
    have hst := parts_len (rooms := n.toNat) (by omega) ns
    have o := cst_ok (rooms := n.toNat) (by omega) ns
    have hsq := F.seqL hS
    walk_at "cws"
    rename_i t ht l1 hl1 l2 hl2
    have F5 : Fr [] H2 (upd (upd (upd H2 t (.tup [V.int (cst n.toNat ns).b, V.int (ns.map V.int).length])) l1 (.lst [V.ref t])) l2 (.lst [])) := ((Fr.new ht).trans (Fr.new hl1)).trans (Fr.new hl2)
    have n12 : l1 ≠ l2 := ne_n hl2 upd_same
    have nt1 : t ≠ l1 := ne_n hl1 upd_same
    have g5 : (upd (upd (upd H2 t (.tup [V.int (cst n.toNat ns).b, V.int (ns.map V.int).length])) l1 (.lst [V.ref t])) l2 (.lst [])) l1 = some (.lst [V.ref t]) := (upd_ne n12).trans upd_same
    have t5 : (upd (upd (upd H2 t (.tup [V.int (cst n.toNat ns).b, V.int (ns.map V.int).length])) l1 (.lst [V.ref t])) l2 (.lst [])) t = some (.tup [V.int (cst n.toNat ns).b, V.int (ns.map V.int).length]) :=
      (upd_ne (ne_n (upd_none hl2) upd_same |> fun _ => ne_n hl2 ((upd_ne nt1).trans upd_same))).trans ((upd_ne nt1).trans upd_same)
    generalize (upd (upd (upd H2 t (.tup [V.int (cst n.toNat ns).b, V.int (ns.map V.int).length])) l1 (.lst [V.ref t])) l2 (.lst [])) = H5 at *
    have gp5 := gp.fr (W := []) F5 (by simp)
    have t0 : H t = none := F.free ht
    rw [hml] at t5
    have hxs := gp.1
    by_cases hne : ns = []
    · refine w_rep1 g5 (by split <;> omega) (by split <;> omega) fun l3 hl3 => ?_
      have e0 : (if (!decide (ns = [])) = true then (1 : Int) else 0).toNat = 0 := by rw [if_neg (by simp [hne])]; rfl
      rw [e0]
      have hx0 : xs = [] := by
        refine List.eq_nil_of_length_eq_zero ?_
        rw [hxs, hne]
        rfl
      subst hx0
      refine w_cat ((upd_ne (ne_n hl3 (F5.get0 g1))).trans (F5.get0 g1)) upd_same (by show 0 ≤ sizeLine; decide) fun l4 hl4 => ?_
      refine k l4 _ _ (((F.trans F5).trans (Fr.new hl3)).trans (Fr.new hl4)) ((F.trans F5).free (upd_none hl4)) upd_same ?_
      unfold parts
      rw [if_pos hne]
      exact .nil
    · refine w_rep1 g5 (by split <;> omega) (by split <;> omega) fun l3 hl3 => ?_
      have e1 : (if (!decide (ns = [])) = true then (1 : Int) else 0).toNat = 1 := by rw [if_pos (by simp [hne])]; rfl
      have hol := o.ol
      have hbn := o.bn
      have hnn := o.n
      rw [e1]
      refine w_cat ((upd_ne (ne_n hl3 (F5.get0 g1))).trans (F5.get0 g1)) upd_same (sz_le (by show xs.length + 1 ≤ 100000; omega)) fun l4 hl4 => ?_
      refine k l4 _ _ (((F.trans F5).trans (Fr.new hl3)).trans (Fr.new hl4)) ((F.trans F5).free (upd_none hl4)) upd_same ?_
      unfold parts
      rw [if_neg hne]
      have F6 : Fr [] H5 (upd (upd H5 l3 (.lst (List.replicate 1 (V.ref t)))) l4 (.lst (xs ++ List.replicate 1 (V.ref t)))) := (Fr.new hl3).trans (Fr.new hl4)
      exact (gp5.fr (W := []) F6 (by simp)).snoc t0 (F6.get0 t5)

/-! law -/
def sp_l_law (K : PySem.W.Frag) : Sp := fun vs H Q _ => ∃ (a : Addr) (ns : List Int), vs = [.ref a] ∧ SqL K H a (ns.map V.int) ∧ ns.length ≤ 63 ∧ ∀ H', Q (.bl true) H'
theorem ok_l_law (T : Txt K mg ad) : FnOk P w K mg base CX0 7 ad.a_l_law ad.d_l_law ["_law_script"] (sp_l_law K) := by
  refine T.F_l_law.ok sc_l_law (fun vs H Q E h => ?_) (fun cdv A outer s H vs Q E hr h => ?_)
  · obtain ⟨a, ns, rfl, _⟩ := h
    rfl
  obtain ⟨a, ns, rfl, hS, hl, k⟩ := h
  refine ⟨_, (pss_cons (ps_set (i := 1) sc_l_law.nd rfl (by first | exact Or.inl rfl | exact Or.inr rfl) (pe_call (ok_l_begun T) (hr.mono (by decide)) (by rfl) T.m_l_begun T.F_l_begun.kp T.b_l_begun .nil pass0 (pa_cons (pv 0) pa_nil)))
    (pss_cons (ps_for PassesOwn.never rfl (pi_range1 (by rfl) T.z_range (pa_cons pe_int pa_nil)) (pg_name (i := 2) sc_l_law.nd rfl (by first | exact Or.inl rfl | exact Or.inr rfl)) (pss_cons (ps_set (i := 3) sc_l_law.nd rfl (by first | exact Or.inl rfl | exact Or.inr rfl) (pe_op op_add pe_int (pe_call (ok_l_take T) (hr.mono (by decide)) (by rfl) T.m_l_take T.F_l_take.kp T.b_l_take .nil pass0 (pa_cons (pv 1) (pa_cons pe_int pa_nil)))))
    (pss_cons (ps_set (i := 4) sc_l_law.nd rfl (by first | exact Or.inl rfl | exact Or.inr rfl) (pe_call (ok_l_row T) (hr.mono (by decide)) (by rfl) T.m_l_row T.F_l_row.kp T.b_l_row .nil pass0 (pa_cons (pv 1) (pa_cons pe_int pa_nil))))
    (pss_cons (ps_set (i := 5) sc_l_law.nd rfl (by first | exact Or.inl rfl | exact Or.inr rfl) (pe_call (ok_l_parts T) (hr.mono (by decide)) (by rfl) T.m_l_parts T.F_l_parts.kp T.b_l_parts .nil pass0 (pa_cons (pv 3) (pa_cons (pv 4) pa_nil))))
    (pss_cons (ps_set (i := 6) sc_l_law.nd rfl (by first | exact Or.inl rfl | exact Or.inr rfl) (pe_ix (kIxL K rfl) (pe_lst (pa_cons pe_str (pa_cons pe_str (pa_cons pe_str pa_nil)))) (pe_call (ok_l_take T) (hr.mono (by decide)) (by rfl) T.m_l_take T.F_l_take.kp T.b_l_take .nil pass0 (pa_cons (pv 1) (pa_cons pe_int pa_nil))) (fun _ _ => rfl)))
    (pss_cons (ps_set (i := 7) sc_l_law.nd rfl (by first | exact Or.inl rfl | exact Or.inr rfl) (pe_call (ok_l_lacks T) (hr.mono (by decide)) (by rfl) T.m_l_lacks T.F_l_lacks.kp T.b_l_lacks .nil pass0 (pa_cons (pv 3) (pa_cons (pv 4) (pa_cons (pv 6) pa_nil)))))
    (pss_cons (ps_setLc (i := 8) (own := [("_law_begin", 12), ("_law_end", 13)]) (by rfl) sc_l_law.nd rfl rfl (sw_true rfl rfl rfl (by decide +kernel)) (kIL (K := K) rfl (pi_list (pv 5))) (blkOk_by (own := [("_law_begin", 12), ("_law_end", 13)]) (N := N_l_law) (sc := defScope s_l_law) (by decide +kernel)) (fun _ _ _ _ _ => (kTup (K := K) (n := 2) rfl (pg_tup (by rfl) (pgs_cons (pg_name (i := 12) sc_l_law.nd rfl (by first | exact Or.inl rfl | exact Or.inr rfl)) (pgs_cons (pg_name (i := 13) sc_l_law.nd rfl (by first | exact Or.inl rfl | exact Or.inr rfl)) pgs_nil))))) (fun _ _ _ _ _ => pts_nil) (fun _ _ _ _ _ => (pe_callB (kLen K rfl) (by rfl) T.z_len (by decide +kernel) (pa_cons (pe_lc (own := [("_law_place", 14)]) (by rfl) sc_l_law.nd (kIL (K := K) rfl (pi_list (pv 7))) (blkOk_by (own := [("_law_place", 14)]) (N := N_l_law) (sc := (relS { kind := PySem.ScopeKind.function, names := [ (PySem.Str.ofString ".0", PySem.NameKind.local), (PySem.Str.ofString "_law_begin", PySem.NameKind.cell), (PySem.Str.ofString "_law_end", PySem.NameKind.cell), (PySem.Str.ofString "len", PySem.NameKind.globalImplicit), (PySem.Str.ofString "_law_lacks_here", PySem.NameKind.free)], isGenerator := false, isCoroutine := false, more := [] : PySem.Scope } (defScope s_l_law))) (by decide +kernel)) (fun _ _ _ _ _ => (pg_name (i := 14) sc_l_law.nd rfl (by first | exact Or.inl rfl | exact Or.inr rfl))) (fun _ _ _ _ _ => pts_one (pt_chain op_le op_lt (pv 12) (pv 14) (pv 13))) (fun _ _ _ _ _ => (pv 14))) pa_nil))))
    (pss_cons (ps_set (i := 9) sc_l_law.nd rfl (by first | exact Or.inl rfl | exact Or.inr rfl) (pe_callTy (kList K rfl) (by rfl) T.z_list (by decide +kernel) (pa_cons (pv 4) pa_nil)))
    (pss_one (ps_for PassesOwn.never rfl (pi_range1 (by rfl) T.z_range (pa_cons pe_int pa_nil)) (pg_name (i := 10) sc_l_law.nd rfl (by first | exact Or.inl rfl | exact Or.inr rfl)) (pss_cons (ps_set (i := 11) sc_l_law.nd rfl (by first | exact Or.inl rfl | exact Or.inr rfl) (pe_lst (pa_cons (pe_call (ok_stretches T) (hr.mono (by decide)) (by rfl) T.m_stretches T.F_stretches.kp T.b_stretches .nil pass0 (pa_cons (pv 3) (pa_cons (pv 9) pa_nil))) (pa_cons (pe_call (ok_lacking_in T) (hr.mono (by decide)) (by rfl) T.m_lacking_in T.F_lacking_in.kp T.b_lacking_in .nil pass0 (pa_cons (pv 3) (pa_cons (pv 9) (pa_cons (pv 6) pa_nil)))) pa_nil))))
    (pss_cons (ps_if (PW.pt (pw_or (pt_not (pt_val (pe_call (ok_l_alike T) (hr.mono (by decide)) (by rfl) T.m_l_alike T.F_l_alike.kp T.b_l_alike .nil pass0 (pa_cons (pv 11) (pa_cons (pe_lst (pa_cons (pv 5) (pa_cons (pv 8) pa_nil))) pa_nil))))) (pw_or1 (pt_cmpR (kNeD K rfl hr.units) (pv 9) (pv 4) (nomark _))))) (pss_one (ps_ret pe_bl)) pss_nil)
    (pss_cons (ps_expr (kBM (K := K) rfl (pe_bm PySem.F.plainAttrs_list PySem.F.slot_list_append PySem.F.type_list_append mt_append (pe_ix (kIxL K rfl) (pv 11) pe_int (fun _ _ => rfl)) (pa_cons (pe_tup pa_nil) pa_nil))))
    (pss_one (ps_expr (kBM (K := K) rfl (pe_bm PySem.F.plainAttrs_list PySem.F.slot_list_append PySem.F.type_list_append mt_append (pe_ix (kIxL K rfl) (pv 11) pe_int (fun _ _ => rfl)) (pa_cons pe_int pa_nil))))))))))))))))))
    (pss_one (ps_ret pe_bl)))), ?_⟩
  walk_at "cws"
  refine ⟨a, ns, rfl, hS, hl, fun b q H1 f1 hb hq B1 => ?_⟩
  walk_at "cws"
  refine f_rng1 (j := 3) (by decide) (by decide) (fun i σ H' => ∃ v2 v3 v4 v5 v6 v7 v8 v9 v10 v11, σ = [some (.ref a), some (.ref b), v2, v3, v4, v5, v6, v7, v8, v9, v10, v11, none, none, none] ∧ Box H' b q) ⟨_, _, _, _, _, _, _, _, _, _, rfl, B1⟩ ?_ ?_
  · rintro i' σ H2 hi ⟨v2, v3, v4, v5, v6, v7, v8, v9, v10, v11, rfl, B2⟩
    walk_at "cws"
    refine c_take B2 (by omega) (by omega) fun r H3 f3 B3 r0 r1 => ?_
    walk_at "cws"
    refine c_row B3 (by omega) (by omega) fun p row H4 f4 B4 hp h4 hl4 hm => ?_
    have hR : RowOk row := ⟨by omega, hm⟩
    walk_at "cws"
    refine c_parts (by omega) (by omega) (SqL.of h4) hR.1 fun pd ps H5 f5 hpd h5 hps => ?_
    have B5 := B4.keep0 f5
    walk_at "cws"
    rename_i pz hpz
    have B6 : Box (upd H5 pz (.lst [V.str (Str.ofString "hand"), V.str (Str.ofString "unseen"), V.str (Str.ofString "first")])) b q := B5.keep0 (Fr.new hpz)
    refine c_take B6 (by omega) (by omega) fun r2 H6 f6 B7 r20 r21 => ?_
    have gz : H6 pz = some (.lst [V.str (Str.ofString "hand"), V.str (Str.ofString "unseen"), V.str (Str.ofString "first")]) := f6.get upd_same (B5.nin hpz)
    obtain ⟨z, hz, hat⟩ : ∃ z, IsRule z ∧ atI [V.str (Str.ofString "hand"), V.str (Str.ofString "unseen"), V.str (Str.ofString "first")] r2 = some (.str z) := by
      obtain h | h | h : r2 = 0 ∨ r2 = 1 ∨ r2 = 2 := by omega
      · subst h; exact ⟨_, .inl rfl, rfl⟩
      · subst h; exact ⟨_, .inr (.inl rfl), rfl⟩
      · subst h; exact ⟨_, .inr (.inr rfl), rfl⟩
    walk_at "cws"
    have gp6 : H6 p = some (.lst (row.map V.int)) := f6.get (((f5.trans (Fr.new hpz)).get0 h4)) (B3.nin hp)
    have gd6 : H6 pd = some (.lst ps) := f6.get ((Fr.new (W := []) hpz).get0 h5) (B4.nin hpd)
    have F46 : Fr [b, q] H4 H6 := ((f5.trans (Fr.new hpz)).of0).trans f6
    have hps6 : NwA K H4 H6 ps ((parts (1 + r).toNat row).map pairD) := hps.nwa.step (W := [b, q]) (fun w hw e => B4.nin e hw) (((Fr.new hpz).of0).trans f6)
    refine c_lacks (by omega) (by omega) hz (SqL.of gp6) hR fun pl H7 f7 hpl h7 => ?_
    walk_at "cws"
    have hplen := places_len (lackB (1 + r).toNat z row)
    rw [lackB_len] at hplen
    have hlen := dpall_len hps6.now
    rw [List.length_map] at hlen
    have hpsl := parts_len (rooms := (1 + r).toNat) (by omega) row
    have hpm := parts_mem (rooms := (1 + r).toNat) (by omega) row
    have hr100 := hR.1
    refine l_list ps (SqL.of (f7.get0 gd6)) (fun D i acc H' => Fr [] H7 H' ∧ acc = (counts (lackB (1 + r).toNat z row) ((parts (1 + r).toNat row).take i)).map V.int) (fun D hD => ⟨Fr.new hD, rfl⟩) (fun D i acc H' hD h _ => SqL.of (h.1.get0 (f7.get0 gd6))) ?_ ?_
    · rintro D i y acc H' hD hi ⟨F, rfl⟩ hacc hl
      have hil := (List.getElem?_eq_some_iff.mp hi).1
      obtain ⟨⟨u, e⟩, he⟩ : ∃ e, (parts (1 + r).toNat row)[i]? = some e := ⟨(parts (1 + r).toNat row)[i], List.getElem?_eq_getElem (by omega)⟩
      obtain ⟨b0, be, en⟩ := hpm _ (List.mem_of_getElem? he)
      obtain ⟨y', hy, hdp⟩ := dpall_get hps6.now (i := i) (d := pairD (u, e)) (by rw [List.getElem?_map, he]; rfl)
      rw [hi] at hy
      cases hy
      obtain ⟨t, rfl, ht⟩ := dp_pair hdp
      have ht' := (f7.trans F).seqT ht
      obtain ⟨b', rfl⟩ : ∃ b' : Nat, u = (b' : Int) := ⟨u.toNat, by omega⟩
      obtain ⟨e', rfl⟩ : ∃ e' : Nat, e = (e' : Int) := ⟨e.toNat, by omega⟩
      walk_at "cws"
      have gl := F.get0 h7
      generalize hplc : places (lackB (1 + r).toNat z row) = plc at *
      refine l_list (plc.map V.int) (SqL.of gl) (fun D2 j acc2 H2' => Fr [] H' H2' ∧ acc2 = ((plc.take j).filter (fun x => decide ((b' : Int) ≤ x ∧ x < (e' : Int)))).map V.int) (fun D2 hD2 => ⟨Fr.new hD2, rfl⟩) (fun D2 j acc2 H2' hD2 h _ => SqL.of (h.1.get0 gl)) ?_ ?_
      · rintro D2 j x acc2 H2' hD2 hj ⟨F2, rfl⟩ hacc2 hl2
        rw [List.getElem?_map] at hj
        obtain ⟨x', hx', rfl⟩ : ∃ x', plc[j]? = some x' ∧ V.int x' = x := by
          cases h : plc[j]? with
          | none => rw [h] at hj; cases hj
          | some x' => rw [h] at hj; exact ⟨x', rfl, Option.some.inj hj⟩
        have hjl := (List.getElem?_eq_some_iff.mp hx').1
        have ef : (plc.take (j + 1)).filter (fun x => decide ((b' : Int) ≤ x ∧ x < (e' : Int))) = (plc.take j).filter (fun x => decide ((b' : Int) ≤ x ∧ x < (e' : Int))) ++ (if (b' : Int) ≤ x' ∧ x' < (e' : Int) then [x'] else []) := by
          rw [take_snoc hx', List.filter_append]
          congr 1
          by_cases h : (b' : Int) ≤ x' ∧ x' < (e' : Int)
          · rw [if_pos h, List.filter_cons_of_pos (by simpa using h)]; rfl
          · rw [if_neg h, List.filter_cons_of_neg (by simpa using h)]; rfl
        walk_at "cws"
        walk_at "cw if" <;> intro e1
        · walk_at "cws"
          walk_at "cw if" <;> intro e2
          · walk_at "cws"
            exact lc_end hacc2 hl2 (by omega) ⟨F2.loc hD2, by rw [ef, if_pos ⟨e1, e2⟩, List.map_append]; rfl⟩
          · walk_at "cws"
            exact ⟨_, ⟨F2, by rw [ef, if_neg (fun z => e2 z.2), List.append_nil]⟩, hacc2, by omega⟩
        · walk_at "cws"
          exact ⟨_, ⟨F2, by rw [ef, if_neg (fun z => e1 z.1), List.append_nil]⟩, hacc2, by omega⟩
      · rintro D2 acc2 H2' hD2 ⟨F2, rfl⟩ hacc2 hl2
        rw [List.length_map, List.take_length, ← hplc, cntL_law] at hacc2
        walk_at "cws"
        refine lc_end (F2.get0 hacc) hl (by omega) ⟨(F.trans F2).loc hD, ?_⟩
        rw [take_snoc he]
        unfold counts
        rw [List.map_append, List.map_append, List.length_map]
        rfl
    · rintro D acc H' hD ⟨F, rfl⟩ hacc hl
      rw [hlen, List.take_length] at hacc
      walk_at "cws"
      rename_i lp hlp
      generalize hE : upd H' lp (.lst (row.map V.int)) = H8
      have F8 : Fr [] H' H8 := hE ▸ Fr.new hlp
      have glp : H8 lp = some (.lst (row.map V.int)) := hE ▸ upd_same
      clear hE
      refine f_rng1 (j := 2) (by decide) (by decide) (fun i σ H' => ∃ v10 v11, σ = [some (.ref a), some (.ref b), some (.int i'), some (.int (1 + r)), some (.ref p), some (.ref pd), some (.str z), some (.ref pl), some (.ref D), some (.ref lp), v10, v11, none, none, none] ∧ Fr [] H8 H') ⟨_, _, rfl, .refl⟩ ?_ ?_
      · rintro i σ H9 hi ⟨v10, v11, rfl, F9⟩
        walk_at "cws"
        refine c_stretches (by omega) (by omega) (SqL.of (F9.get0 glp)) hR fun p1 xs H10 f10 hp1 h10 hn1 => ?_
        walk_at "cws"
        refine c_lacking_in (by omega) (by omega) hz (SqL.of ((F9.trans f10).get0 glp)) hR fun p2 H11 f11 hp2 h11 => ?_
        walk_at "cws"
        rename_i n1 hn1' n2 hn2'
        generalize hE : upd (upd H11 n1 (.lst [V.ref p1, V.ref p2])) n2 (.lst [V.ref pd, V.ref D]) = H12
        have F12 : Fr [] H11 H12 := hE ▸ (Fr.new hn1').trans (Fr.new hn2')
        have g12 : n1 ≠ n2 := ne_n hn2' upd_same
        have gn1 : H12 n1 = some (.lst [V.ref p1, V.ref p2]) := hE ▸ (upd_ne g12).trans upd_same
        have gn2 : H12 n2 = some (.lst [V.ref pd, V.ref D]) := hE ▸ upd_same
        clear hE
        have F7_12 : Fr [] H7 H12 := ((((F.trans F8).trans F9).trans f10).trans f11).trans F12
        have gD : H12 D = some (.lst ((counts (lackB (1 + r).toNat z row) (parts (1 + r).toNat row)).map V.int)) := (((F8.trans F9).trans f10).trans (f11.trans F12)).get0 hacc
        have gpd : H12 pd = some (.lst ps) := (f7.trans F7_12).get0 gd6
        have gp1 : H12 p1 = some (.lst xs) := (f11.trans F12).get0 h10
        have gp2 : H12 p2 = some (.lst ((counts (lackB (1 + r).toNat z row) (parts (1 + r).toNat row)).map V.int)) := F12.get0 h11
        have glp' : H12 lp = some (.lst (row.map V.int)) := (((F9.trans f10).trans f11).trans F12).get0 glp
        have gp' : H12 p = some (.lst (row.map V.int)) := (f7.trans F7_12).get0 gp6
        have dx := hn1 [] H12 (by simp) (f11.trans F12)
        have dy := hps6 [] H12 (by simp) (f7.trans F7_12)
        have hxl : xs.length ≤ 100 := by
          have := dpall_len dx
          rw [List.length_map] at this
          omega
        have hcl : (counts (lackB (1 + r).toNat z row) (parts (1 + r).toNat row)).length ≤ 100 := by
          unfold counts
          rw [List.length_map]
          omega
        have n1p1 : n1 ≠ p1 := ne_n' (f11.free hn1') h10
        have n1p2 : n1 ≠ p2 := ne_n' hn1' h11
        have p12 : p1 ≠ p2 := ne_n hp2 h10
        refine c_alike (.list [.list ((parts (1 + r).toNat row).map pairD), .list ((counts (lackB (1 + r).toNat z row) (parts (1 + r).toNat row)).map PyData.int)])
          (.lst (SqL.of gn1) (.cons (.lst (SqL.of gp1) dx) (.cons (.lst (SqL.of gp2) (dp_ints _)) .nil))) (.lst (SqL.of gn2) (.cons (.lst (SqL.of gpd) dy) (.cons (.lst (SqL.of gD) (dp_ints _)) .nil))) ?_ ?_
        · exact fits_two (fits_pairs (by omega)) (fits_ints (by omega))
        walk_at "cws"
        exact ⟨_, _, rfl, (((((F9.trans f10).trans f11).trans F12).trans (Fr.new ‹_›)).loc (F9.free hp1)).loc ((F9.trans f10).free hp2)⟩
      · rintro σ H9 ⟨v10, v11, rfl, F9⟩
        exact ⟨_, _, _, _, _, _, _, _, _, _, rfl, B7.keep0 (((f7.trans F).trans F8).trans F9)⟩
  · rintro σ H2 ⟨v2, v3, v4, v5, v6, v7, v8, v9, v10, v11, rfl, B2⟩
    walk_at "cws"
    exact k H2

end
/-! what the top has left -/
theorem all_mk {l : PySem.W.OpenLaw} {w : World} {K : PySem.W.Frag} {h : Heap} {mg : Str → Option Value} {fa f_need_rooms f_is_page f_need_row f_need_both f_Dial_init f_Dial_ask f_Dial_pages f_Dial_looked f_Dial_points f_Dial_lacked f_round_told f_need_rule f_by_row f_all_lacking f_all_stretches f_stretches f_lacking_in f_l_begun f_l_take f_l_alike f_l_row f_l_dial f_l_ask f_l_lacks f_l_parts f_l_law C_Dial A_RULES : Addr} (X : K.In h) (G : h.Ns mainGlobals mg) (hfa : mg "law" = some (.ref fa))
    {od_need_rooms an_need_rooms : Option Addr} {sl_need_rooms : Array (Option Value)} {oc_need_rooms kV_need_rooms dc_need_rooms pm_need_rooms cd_need_rooms ct_need_rooms : Value}
    {od_is_page an_is_page : Option Addr} {sl_is_page : Array (Option Value)} {oc_is_page kV_is_page dc_is_page pm_is_page cd_is_page ct_is_page : Value}
    {od_need_row an_need_row : Option Addr} {sl_need_row : Array (Option Value)} {oc_need_row kV_need_row dc_need_row pm_need_row cd_need_row ct_need_row : Value}
    {od_need_both an_need_both : Option Addr} {sl_need_both : Array (Option Value)} {oc_need_both kV_need_both dc_need_both pm_need_both cd_need_both ct_need_both : Value}
    {od_Dial_init an_Dial_init : Option Addr} {sl_Dial_init : Array (Option Value)} {oc_Dial_init kV_Dial_init dc_Dial_init pm_Dial_init cd_Dial_init ct_Dial_init : Value}
    {od_Dial_ask an_Dial_ask : Option Addr} {sl_Dial_ask : Array (Option Value)} {oc_Dial_ask kV_Dial_ask dc_Dial_ask pm_Dial_ask cd_Dial_ask ct_Dial_ask : Value}
    {od_Dial_pages an_Dial_pages : Option Addr} {sl_Dial_pages : Array (Option Value)} {oc_Dial_pages kV_Dial_pages dc_Dial_pages pm_Dial_pages cd_Dial_pages ct_Dial_pages : Value}
    {od_Dial_looked an_Dial_looked : Option Addr} {sl_Dial_looked : Array (Option Value)} {oc_Dial_looked kV_Dial_looked dc_Dial_looked pm_Dial_looked cd_Dial_looked ct_Dial_looked : Value}
    {od_Dial_points an_Dial_points : Option Addr} {sl_Dial_points : Array (Option Value)} {oc_Dial_points kV_Dial_points dc_Dial_points pm_Dial_points cd_Dial_points ct_Dial_points : Value}
    {od_Dial_lacked an_Dial_lacked : Option Addr} {sl_Dial_lacked : Array (Option Value)} {oc_Dial_lacked kV_Dial_lacked dc_Dial_lacked pm_Dial_lacked cd_Dial_lacked ct_Dial_lacked : Value}
    {od_round_told an_round_told : Option Addr} {sl_round_told : Array (Option Value)} {oc_round_told kV_round_told dc_round_told pm_round_told cd_round_told ct_round_told : Value}
    {od_need_rule an_need_rule : Option Addr} {sl_need_rule : Array (Option Value)} {oc_need_rule kV_need_rule dc_need_rule pm_need_rule cd_need_rule ct_need_rule : Value}
    {od_by_row an_by_row : Option Addr} {sl_by_row : Array (Option Value)} {oc_by_row kV_by_row dc_by_row pm_by_row cd_by_row ct_by_row : Value}
    {od_all_lacking an_all_lacking : Option Addr} {sl_all_lacking : Array (Option Value)} {oc_all_lacking kV_all_lacking dc_all_lacking pm_all_lacking cd_all_lacking ct_all_lacking : Value}
    {od_all_stretches an_all_stretches : Option Addr} {sl_all_stretches : Array (Option Value)} {oc_all_stretches kV_all_stretches dc_all_stretches pm_all_stretches cd_all_stretches ct_all_stretches : Value}
    {od_stretches an_stretches : Option Addr} {sl_stretches : Array (Option Value)} {oc_stretches kV_stretches dc_stretches pm_stretches cd_stretches ct_stretches : Value}
    {od_lacking_in an_lacking_in : Option Addr} {sl_lacking_in : Array (Option Value)} {oc_lacking_in kV_lacking_in dc_lacking_in pm_lacking_in cd_lacking_in ct_lacking_in : Value}
    {od_l_begun an_l_begun : Option Addr} {sl_l_begun : Array (Option Value)} {oc_l_begun kV_l_begun dc_l_begun pm_l_begun cd_l_begun ct_l_begun : Value}
    {od_l_take an_l_take : Option Addr} {sl_l_take : Array (Option Value)} {oc_l_take kV_l_take dc_l_take pm_l_take cd_l_take ct_l_take : Value}
    {od_l_alike an_l_alike : Option Addr} {sl_l_alike : Array (Option Value)} {oc_l_alike kV_l_alike dc_l_alike pm_l_alike cd_l_alike ct_l_alike : Value}
    {od_l_row an_l_row : Option Addr} {sl_l_row : Array (Option Value)} {oc_l_row kV_l_row dc_l_row pm_l_row cd_l_row ct_l_row : Value}
    {od_l_dial an_l_dial : Option Addr} {sl_l_dial : Array (Option Value)} {oc_l_dial kV_l_dial dc_l_dial pm_l_dial cd_l_dial ct_l_dial : Value}
    {od_l_ask an_l_ask : Option Addr} {sl_l_ask : Array (Option Value)} {oc_l_ask kV_l_ask dc_l_ask pm_l_ask cd_l_ask ct_l_ask : Value}
    {od_l_lacks an_l_lacks : Option Addr} {sl_l_lacks : Array (Option Value)} {oc_l_lacks kV_l_lacks dc_l_lacks pm_l_lacks cd_l_lacks ct_l_lacks : Value}
    {od_l_parts an_l_parts : Option Addr} {sl_l_parts : Array (Option Value)} {oc_l_parts kV_l_parts dc_l_parts pm_l_parts cd_l_parts ct_l_parts : Value}
    {od_l_law an_l_law : Option Addr} {sl_l_law : Array (Option Value)} {oc_l_law kV_l_law dc_l_law pm_l_law cd_l_law ct_l_law : Value}
    {t_MOST_ROOMS : Tok}
    {t_MOST_PAGES : Tok}
    {t_MOST_ASKS : Tok}
    {t_HAND : Tok}
    {t_UNSEEN : Tok}
    {od_RULES : Option Addr} {n_RULES : Nat} {sl_RULES : Array (Option Value)} {t0_RULES : Tok} {t1_RULES : Tok} {t2_RULES : Tok}
    (aC_Dial : PySem.W.nsIn K mainGlobals "Dial" = some (some (.ref C_Dial)))
    (a_need_rooms : PySem.W.nsIn K mainGlobals "need_rooms" = some (some (.ref f_need_rooms)))
    (l_need_rooms : K.lookup f_need_rooms = some ⟨oc_need_rooms, od_need_rooms, .func (PySem.W.fnOf "need_rooms" "need_rooms" (defArgs s_need_rooms) (defBody s_need_rooms) (defScope s_need_rooms) .none kV_need_rooms dc_need_rooms pm_need_rooms an_need_rooms cd_need_rooms ct_need_rooms), sl_need_rooms⟩)
    (c_need_rooms : PySem.W.codeIn K cd_need_rooms "need_rooms" = true)
    (k_need_rooms : PySem.W.keepIn K (.ref f_need_rooms) = true)
    (a_is_page : PySem.W.nsIn K mainGlobals "is_page" = some (some (.ref f_is_page)))
    (l_is_page : K.lookup f_is_page = some ⟨oc_is_page, od_is_page, .func (PySem.W.fnOf "is_page" "is_page" (defArgs s_is_page) (defBody s_is_page) (defScope s_is_page) .none kV_is_page dc_is_page pm_is_page an_is_page cd_is_page ct_is_page), sl_is_page⟩)
    (c_is_page : PySem.W.codeIn K cd_is_page "is_page" = true)
    (k_is_page : PySem.W.keepIn K (.ref f_is_page) = true)
    (a_need_row : PySem.W.nsIn K mainGlobals "need_row" = some (some (.ref f_need_row)))
    (l_need_row : K.lookup f_need_row = some ⟨oc_need_row, od_need_row, .func (PySem.W.fnOf "need_row" "need_row" (defArgs s_need_row) (defBody s_need_row) (defScope s_need_row) .none kV_need_row dc_need_row pm_need_row an_need_row cd_need_row ct_need_row), sl_need_row⟩)
    (c_need_row : PySem.W.codeIn K cd_need_row "need_row" = true)
    (k_need_row : PySem.W.keepIn K (.ref f_need_row) = true)
    (a_need_both : PySem.W.nsIn K mainGlobals "need_both" = some (some (.ref f_need_both)))
    (l_need_both : K.lookup f_need_both = some ⟨oc_need_both, od_need_both, .func (PySem.W.fnOf "need_both" "need_both" (defArgs s_need_both) (defBody s_need_both) (defScope s_need_both) .none kV_need_both dc_need_both pm_need_both an_need_both cd_need_both ct_need_both), sl_need_both⟩)
    (c_need_both : PySem.W.codeIn K cd_need_both "need_both" = true)
    (k_need_both : PySem.W.keepIn K (.ref f_need_both) = true)
    (a_Dial_init : PySem.W.findIn K (.ref C_Dial) "__init__" = some (some (.ref f_Dial_init)))
    (i_Dial_init : PySem.W.isFn K (.ref f_Dial_init) = true)
    (l_Dial_init : K.lookup f_Dial_init = some ⟨oc_Dial_init, od_Dial_init, .func (PySem.W.fnOf "__init__" "Dial.__init__" (defArgs s_Dial_init) (defBody s_Dial_init) (defScope s_Dial_init) .none kV_Dial_init dc_Dial_init pm_Dial_init an_Dial_init cd_Dial_init ct_Dial_init), sl_Dial_init⟩)
    (c_Dial_init : PySem.W.codeIn K cd_Dial_init "Dial.__init__" = true)
    (k_Dial_init : PySem.W.keepIn K (.ref f_Dial_init) = true)
    (a_Dial_ask : PySem.W.findIn K (.ref C_Dial) "ask" = some (some (.ref f_Dial_ask)))
    (i_Dial_ask : PySem.W.isFn K (.ref f_Dial_ask) = true)
    (l_Dial_ask : K.lookup f_Dial_ask = some ⟨oc_Dial_ask, od_Dial_ask, .func (PySem.W.fnOf "ask" "Dial.ask" (defArgs s_Dial_ask) (defBody s_Dial_ask) (defScope s_Dial_ask) .none kV_Dial_ask dc_Dial_ask pm_Dial_ask an_Dial_ask cd_Dial_ask ct_Dial_ask), sl_Dial_ask⟩)
    (c_Dial_ask : PySem.W.codeIn K cd_Dial_ask "Dial.ask" = true)
    (k_Dial_ask : PySem.W.keepIn K (.ref f_Dial_ask) = true)
    (a_Dial_pages : PySem.W.findIn K (.ref C_Dial) "pages" = some (some (.ref f_Dial_pages)))
    (i_Dial_pages : PySem.W.isFn K (.ref f_Dial_pages) = true)
    (l_Dial_pages : K.lookup f_Dial_pages = some ⟨oc_Dial_pages, od_Dial_pages, .func (PySem.W.fnOf "pages" "Dial.pages" (defArgs s_Dial_pages) (defBody s_Dial_pages) (defScope s_Dial_pages) .none kV_Dial_pages dc_Dial_pages pm_Dial_pages an_Dial_pages cd_Dial_pages ct_Dial_pages), sl_Dial_pages⟩)
    (c_Dial_pages : PySem.W.codeIn K cd_Dial_pages "Dial.pages" = true)
    (k_Dial_pages : PySem.W.keepIn K (.ref f_Dial_pages) = true)
    (a_Dial_looked : PySem.W.findIn K (.ref C_Dial) "looked" = some (some (.ref f_Dial_looked)))
    (i_Dial_looked : PySem.W.isFn K (.ref f_Dial_looked) = true)
    (l_Dial_looked : K.lookup f_Dial_looked = some ⟨oc_Dial_looked, od_Dial_looked, .func (PySem.W.fnOf "looked" "Dial.looked" (defArgs s_Dial_looked) (defBody s_Dial_looked) (defScope s_Dial_looked) .none kV_Dial_looked dc_Dial_looked pm_Dial_looked an_Dial_looked cd_Dial_looked ct_Dial_looked), sl_Dial_looked⟩)
    (c_Dial_looked : PySem.W.codeIn K cd_Dial_looked "Dial.looked" = true)
    (k_Dial_looked : PySem.W.keepIn K (.ref f_Dial_looked) = true)
    (a_Dial_points : PySem.W.findIn K (.ref C_Dial) "points" = some (some (.ref f_Dial_points)))
    (i_Dial_points : PySem.W.isFn K (.ref f_Dial_points) = true)
    (l_Dial_points : K.lookup f_Dial_points = some ⟨oc_Dial_points, od_Dial_points, .func (PySem.W.fnOf "points" "Dial.points" (defArgs s_Dial_points) (defBody s_Dial_points) (defScope s_Dial_points) .none kV_Dial_points dc_Dial_points pm_Dial_points an_Dial_points cd_Dial_points ct_Dial_points), sl_Dial_points⟩)
    (c_Dial_points : PySem.W.codeIn K cd_Dial_points "Dial.points" = true)
    (k_Dial_points : PySem.W.keepIn K (.ref f_Dial_points) = true)
    (a_Dial_lacked : PySem.W.findIn K (.ref C_Dial) "lacked" = some (some (.ref f_Dial_lacked)))
    (i_Dial_lacked : PySem.W.isFn K (.ref f_Dial_lacked) = true)
    (l_Dial_lacked : K.lookup f_Dial_lacked = some ⟨oc_Dial_lacked, od_Dial_lacked, .func (PySem.W.fnOf "lacked" "Dial.lacked" (defArgs s_Dial_lacked) (defBody s_Dial_lacked) (defScope s_Dial_lacked) .none kV_Dial_lacked dc_Dial_lacked pm_Dial_lacked an_Dial_lacked cd_Dial_lacked ct_Dial_lacked), sl_Dial_lacked⟩)
    (c_Dial_lacked : PySem.W.codeIn K cd_Dial_lacked "Dial.lacked" = true)
    (k_Dial_lacked : PySem.W.keepIn K (.ref f_Dial_lacked) = true)
    (a_round_told : PySem.W.nsIn K mainGlobals "round_told" = some (some (.ref f_round_told)))
    (l_round_told : K.lookup f_round_told = some ⟨oc_round_told, od_round_told, .func (PySem.W.fnOf "round_told" "round_told" (defArgs s_round_told) (defBody s_round_told) (defScope s_round_told) .none kV_round_told dc_round_told pm_round_told an_round_told cd_round_told ct_round_told), sl_round_told⟩)
    (c_round_told : PySem.W.codeIn K cd_round_told "round_told" = true)
    (k_round_told : PySem.W.keepIn K (.ref f_round_told) = true)
    (a_need_rule : PySem.W.nsIn K mainGlobals "need_rule" = some (some (.ref f_need_rule)))
    (l_need_rule : K.lookup f_need_rule = some ⟨oc_need_rule, od_need_rule, .func (PySem.W.fnOf "need_rule" "need_rule" (defArgs s_need_rule) (defBody s_need_rule) (defScope s_need_rule) .none kV_need_rule dc_need_rule pm_need_rule an_need_rule cd_need_rule ct_need_rule), sl_need_rule⟩)
    (c_need_rule : PySem.W.codeIn K cd_need_rule "need_rule" = true)
    (k_need_rule : PySem.W.keepIn K (.ref f_need_rule) = true)
    (a_by_row : PySem.W.nsIn K mainGlobals "by_row" = some (some (.ref f_by_row)))
    (l_by_row : K.lookup f_by_row = some ⟨oc_by_row, od_by_row, .func (PySem.W.fnOf "by_row" "by_row" (defArgs s_by_row) (defBody s_by_row) (defScope s_by_row) .none kV_by_row dc_by_row pm_by_row an_by_row cd_by_row ct_by_row), sl_by_row⟩)
    (c_by_row : PySem.W.codeIn K cd_by_row "by_row" = true)
    (k_by_row : PySem.W.keepIn K (.ref f_by_row) = true)
    (a_all_lacking : PySem.W.nsIn K mainGlobals "all_lacking" = some (some (.ref f_all_lacking)))
    (l_all_lacking : K.lookup f_all_lacking = some ⟨oc_all_lacking, od_all_lacking, .func (PySem.W.fnOf "all_lacking" "all_lacking" (defArgs s_all_lacking) (defBody s_all_lacking) (defScope s_all_lacking) .none kV_all_lacking dc_all_lacking pm_all_lacking an_all_lacking cd_all_lacking ct_all_lacking), sl_all_lacking⟩)
    (c_all_lacking : PySem.W.codeIn K cd_all_lacking "all_lacking" = true)
    (k_all_lacking : PySem.W.keepIn K (.ref f_all_lacking) = true)
    (a_all_stretches : PySem.W.nsIn K mainGlobals "all_stretches" = some (some (.ref f_all_stretches)))
    (l_all_stretches : K.lookup f_all_stretches = some ⟨oc_all_stretches, od_all_stretches, .func (PySem.W.fnOf "all_stretches" "all_stretches" (defArgs s_all_stretches) (defBody s_all_stretches) (defScope s_all_stretches) .none kV_all_stretches dc_all_stretches pm_all_stretches an_all_stretches cd_all_stretches ct_all_stretches), sl_all_stretches⟩)
    (c_all_stretches : PySem.W.codeIn K cd_all_stretches "all_stretches" = true)
    (k_all_stretches : PySem.W.keepIn K (.ref f_all_stretches) = true)
    (a_stretches : PySem.W.nsIn K mainGlobals "stretches" = some (some (.ref f_stretches)))
    (l_stretches : K.lookup f_stretches = some ⟨oc_stretches, od_stretches, .func (PySem.W.fnOf "stretches" "stretches" (defArgs s_stretches) (defBody s_stretches) (defScope s_stretches) .none kV_stretches dc_stretches pm_stretches an_stretches cd_stretches ct_stretches), sl_stretches⟩)
    (c_stretches : PySem.W.codeIn K cd_stretches "stretches" = true)
    (k_stretches : PySem.W.keepIn K (.ref f_stretches) = true)
    (a_lacking_in : PySem.W.nsIn K mainGlobals "lacking_in" = some (some (.ref f_lacking_in)))
    (l_lacking_in : K.lookup f_lacking_in = some ⟨oc_lacking_in, od_lacking_in, .func (PySem.W.fnOf "lacking_in" "lacking_in" (defArgs s_lacking_in) (defBody s_lacking_in) (defScope s_lacking_in) .none kV_lacking_in dc_lacking_in pm_lacking_in an_lacking_in cd_lacking_in ct_lacking_in), sl_lacking_in⟩)
    (c_lacking_in : PySem.W.codeIn K cd_lacking_in "lacking_in" = true)
    (k_lacking_in : PySem.W.keepIn K (.ref f_lacking_in) = true)
    (a_l_begun : PySem.W.nsIn K mainGlobals "_law_begun" = some (some (.ref f_l_begun)))
    (l_l_begun : K.lookup f_l_begun = some ⟨oc_l_begun, od_l_begun, .func (PySem.W.fnOf "_law_begun" "_law_begun" (defArgs s_l_begun) (defBody s_l_begun) (defScope s_l_begun) .none kV_l_begun dc_l_begun pm_l_begun an_l_begun cd_l_begun ct_l_begun), sl_l_begun⟩)
    (c_l_begun : PySem.W.codeIn K cd_l_begun "_law_begun" = true)
    (k_l_begun : PySem.W.keepIn K (.ref f_l_begun) = true)
    (a_l_take : PySem.W.nsIn K mainGlobals "_law_take" = some (some (.ref f_l_take)))
    (l_l_take : K.lookup f_l_take = some ⟨oc_l_take, od_l_take, .func (PySem.W.fnOf "_law_take" "_law_take" (defArgs s_l_take) (defBody s_l_take) (defScope s_l_take) .none kV_l_take dc_l_take pm_l_take an_l_take cd_l_take ct_l_take), sl_l_take⟩)
    (c_l_take : PySem.W.codeIn K cd_l_take "_law_take" = true)
    (k_l_take : PySem.W.keepIn K (.ref f_l_take) = true)
    (a_l_alike : PySem.W.nsIn K mainGlobals "_law_alike" = some (some (.ref f_l_alike)))
    (l_l_alike : K.lookup f_l_alike = some ⟨oc_l_alike, od_l_alike, .func (PySem.W.fnOf "_law_alike" "_law_alike" (defArgs s_l_alike) (defBody s_l_alike) (defScope s_l_alike) .none kV_l_alike dc_l_alike pm_l_alike an_l_alike cd_l_alike ct_l_alike), sl_l_alike⟩)
    (c_l_alike : PySem.W.codeIn K cd_l_alike "_law_alike" = true)
    (k_l_alike : PySem.W.keepIn K (.ref f_l_alike) = true)
    (a_l_row : PySem.W.nsIn K mainGlobals "_law_row" = some (some (.ref f_l_row)))
    (l_l_row : K.lookup f_l_row = some ⟨oc_l_row, od_l_row, .func (PySem.W.fnOf "_law_row" "_law_row" (defArgs s_l_row) (defBody s_l_row) (defScope s_l_row) .none kV_l_row dc_l_row pm_l_row an_l_row cd_l_row ct_l_row), sl_l_row⟩)
    (c_l_row : PySem.W.codeIn K cd_l_row "_law_row" = true)
    (k_l_row : PySem.W.keepIn K (.ref f_l_row) = true)
    (a_l_dial : PySem.W.nsIn K mainGlobals "_law_dial" = some (some (.ref f_l_dial)))
    (l_l_dial : K.lookup f_l_dial = some ⟨oc_l_dial, od_l_dial, .func (PySem.W.fnOf "_law_dial" "_law_dial" (defArgs s_l_dial) (defBody s_l_dial) (defScope s_l_dial) .none kV_l_dial dc_l_dial pm_l_dial an_l_dial cd_l_dial ct_l_dial), sl_l_dial⟩)
    (c_l_dial : PySem.W.codeIn K cd_l_dial "_law_dial" = true)
    (k_l_dial : PySem.W.keepIn K (.ref f_l_dial) = true)
    (a_l_ask : PySem.W.nsIn K mainGlobals "_law_ask" = some (some (.ref f_l_ask)))
    (l_l_ask : K.lookup f_l_ask = some ⟨oc_l_ask, od_l_ask, .func (PySem.W.fnOf "_law_ask" "_law_ask" (defArgs s_l_ask) (defBody s_l_ask) (defScope s_l_ask) .none kV_l_ask dc_l_ask pm_l_ask an_l_ask cd_l_ask ct_l_ask), sl_l_ask⟩)
    (c_l_ask : PySem.W.codeIn K cd_l_ask "_law_ask" = true)
    (k_l_ask : PySem.W.keepIn K (.ref f_l_ask) = true)
    (a_l_lacks : PySem.W.nsIn K mainGlobals "_law_lacks" = some (some (.ref f_l_lacks)))
    (l_l_lacks : K.lookup f_l_lacks = some ⟨oc_l_lacks, od_l_lacks, .func (PySem.W.fnOf "_law_lacks" "_law_lacks" (defArgs s_l_lacks) (defBody s_l_lacks) (defScope s_l_lacks) .none kV_l_lacks dc_l_lacks pm_l_lacks an_l_lacks cd_l_lacks ct_l_lacks), sl_l_lacks⟩)
    (c_l_lacks : PySem.W.codeIn K cd_l_lacks "_law_lacks" = true)
    (k_l_lacks : PySem.W.keepIn K (.ref f_l_lacks) = true)
    (a_l_parts : PySem.W.nsIn K mainGlobals "_law_parts" = some (some (.ref f_l_parts)))
    (l_l_parts : K.lookup f_l_parts = some ⟨oc_l_parts, od_l_parts, .func (PySem.W.fnOf "_law_parts" "_law_parts" (defArgs s_l_parts) (defBody s_l_parts) (defScope s_l_parts) .none kV_l_parts dc_l_parts pm_l_parts an_l_parts cd_l_parts ct_l_parts), sl_l_parts⟩)
    (c_l_parts : PySem.W.codeIn K cd_l_parts "_law_parts" = true)
    (k_l_parts : PySem.W.keepIn K (.ref f_l_parts) = true)
    (a_l_law : PySem.W.nsIn K mainGlobals "law" = some (some (.ref f_l_law)))
    (l_l_law : K.lookup f_l_law = some ⟨oc_l_law, od_l_law, .func (PySem.W.fnOf "law" "law" (defArgs s_l_law) (defBody s_l_law) (defScope s_l_law) .none kV_l_law dc_l_law pm_l_law an_l_law cd_l_law ct_l_law), sl_l_law⟩)
    (c_l_law : PySem.W.codeIn K cd_l_law "law" = true)
    (k_l_law : PySem.W.keepIn K (.ref f_l_law) = true)
    (pg_Dial : PySem.W.plainGet K C_Dial Str.empty = true)
    (hd_Dial : PySem.W.hasDictIn K C_Dial = true)
    (po_Dial : PySem.W.plainOver K C_Dial = true)
    (sa_Dial : PySem.W.findIn K (.ref C_Dial) "__setattr__" = some (some (.builtin "object.__setattr__")))
    (mk_Dial : PySem.W.makesIn K C_Dial = true)
    (kc_Dial : PySem.W.keepIn K (.ref C_Dial) = true)
    (n_Dial_here : PySem.W.findIn K (.ref C_Dial) "here" = some none)
    (n_Dial_seen : PySem.W.findIn K (.ref C_Dial) "seen" = some none)
    (n_Dial_hand : PySem.W.findIn K (.ref C_Dial) "hand" = some none)
    (n_Dial_lacks : PySem.W.findIn K (.ref C_Dial) "lacks" = some none)
    (v_MOST_ROOMS : PySem.W.nsIn K mainGlobals "MOST_ROOMS" = some (some (.int 8 t_MOST_ROOMS)))
    (v_MOST_PAGES : PySem.W.nsIn K mainGlobals "MOST_PAGES" = some (some (.int 12 t_MOST_PAGES)))
    (v_MOST_ASKS : PySem.W.nsIn K mainGlobals "MOST_ASKS" = some (some (.int 100 t_MOST_ASKS)))
    (v_HAND : PySem.W.nsIn K mainGlobals "HAND" = some (some (.str (Str.ofString "hand") t_HAND)))
    (v_UNSEEN : PySem.W.nsIn K mainGlobals "UNSEEN" = some (some (.str (Str.ofString "unseen") t_UNSEEN)))
    (v_RULES : PySem.W.nsIn K mainGlobals "RULES" = some (some (.ref A_RULES)))
    (l_RULES : K.lookup A_RULES = some ⟨.type "tuple", od_RULES, .seq #[.str (Str.ofString "hand") t0_RULES, .str (Str.ofString "unseen") t1_RULES, .str (Str.ofString "first") t2_RULES] n_RULES, sl_RULES⟩)
    (z_len : PySem.W.nsIn K mainGlobals "len" = some none)
    (z_int : PySem.W.nsIn K mainGlobals "int" = some none)
    (z_min : PySem.W.nsIn K mainGlobals "min" = some none)
    (z_list : PySem.W.nsIn K mainGlobals "list" = some none)
    (z_set : PySem.W.nsIn K mainGlobals "set" = some none)
    (z_tuple : PySem.W.nsIn K mainGlobals "tuple" = some none)
    (z_isinstance : PySem.W.nsIn K mainGlobals "isinstance" = some none)
    (z_range : PySem.W.nsIn K mainGlobals "range" = some none)
    (z_enumerate : PySem.W.nsIn K mainGlobals "enumerate" = some none)
    (z_bool : PySem.W.nsIn K mainGlobals "bool" = some none)
    (z_str : PySem.W.nsIn K mainGlobals "str" = some none) :
    ∃ fd : FuncData, (∀ (s : Shared) (v : Value), BindsTo s fd ⟨[v], []⟩ [("_law_script", v)]) ∧ ∀ base : Heap, K.In base → base.Ns mainGlobals mg → FnOk l.prog w K mg base CX0 7 fa fd ["_law_script"] (sp_l_law K) := by
  have e := hfa.symm.trans (PySem.W.mg_of X G a_l_law)
  cases e
  have F_need_rooms := fun_mk (st := s_need_rooms) l_need_rooms c_need_rooms k_need_rooms
  have b_need_rooms := F_need_rooms.binds (ps := ["rooms"]) fun _ _ _ _ _ _ us hl => match us, hl with | [_], _ => rfl
  have F_is_page := fun_mk (st := s_is_page) l_is_page c_is_page k_is_page
  have b_is_page := F_is_page.binds (ps := ["page"]) fun _ _ _ _ _ _ us hl => match us, hl with | [_], _ => rfl
  have F_need_row := fun_mk (st := s_need_row) l_need_row c_need_row k_need_row
  have b_need_row := F_need_row.binds (ps := ["row"]) fun _ _ _ _ _ _ us hl => match us, hl with | [_], _ => rfl
  have F_need_both := fun_mk (st := s_need_both) l_need_both c_need_both k_need_both
  have b_need_both := F_need_both.binds (ps := ["rooms", "row"]) fun _ _ _ _ _ _ us hl => match us, hl with | [_, _], _ => rfl
  have F_Dial_init := fun_mk (st := s_Dial_init) l_Dial_init c_Dial_init k_Dial_init
  have b_Dial_init := F_Dial_init.binds (ps := ["self", "rooms"]) fun _ _ _ _ _ _ us hl => match us, hl with | [_, _], _ => rfl
  have F_Dial_ask := fun_mk (st := s_Dial_ask) l_Dial_ask c_Dial_ask k_Dial_ask
  have b_Dial_ask := F_Dial_ask.binds (ps := ["self", "page"]) fun _ _ _ _ _ _ us hl => match us, hl with | [_, _], _ => rfl
  have F_Dial_pages := fun_mk (st := s_Dial_pages) l_Dial_pages c_Dial_pages k_Dial_pages
  have b_Dial_pages := F_Dial_pages.binds (ps := ["self"]) fun _ _ _ _ _ _ us hl => match us, hl with | [_], _ => rfl
  have F_Dial_looked := fun_mk (st := s_Dial_looked) l_Dial_looked c_Dial_looked k_Dial_looked
  have b_Dial_looked := F_Dial_looked.binds (ps := ["self"]) fun _ _ _ _ _ _ us hl => match us, hl with | [_], _ => rfl
  have F_Dial_points := fun_mk (st := s_Dial_points) l_Dial_points c_Dial_points k_Dial_points
  have b_Dial_points := F_Dial_points.binds (ps := ["self"]) fun _ _ _ _ _ _ us hl => match us, hl with | [_], _ => rfl
  have F_Dial_lacked := fun_mk (st := s_Dial_lacked) l_Dial_lacked c_Dial_lacked k_Dial_lacked
  have b_Dial_lacked := F_Dial_lacked.binds (ps := ["self"]) fun _ _ _ _ _ _ us hl => match us, hl with | [_], _ => rfl
  have F_round_told := fun_mk (st := s_round_told) l_round_told c_round_told k_round_told
  have b_round_told := F_round_told.binds (ps := ["rooms", "row"]) fun _ _ _ _ _ _ us hl => match us, hl with | [_, _], _ => rfl
  have F_need_rule := fun_mk (st := s_need_rule) l_need_rule c_need_rule k_need_rule
  have b_need_rule := F_need_rule.binds (ps := ["rule"]) fun _ _ _ _ _ _ us hl => match us, hl with | [_], _ => rfl
  have F_by_row := fun_mk (st := s_by_row) l_by_row c_by_row k_by_row
  have b_by_row := F_by_row.binds (ps := ["rooms", "row", "rule"]) fun _ _ _ _ _ _ us hl => match us, hl with | [_, _, _], _ => rfl
  have F_all_lacking := fun_mk (st := s_all_lacking) l_all_lacking c_all_lacking k_all_lacking
  have b_all_lacking := F_all_lacking.binds (ps := ["rooms", "row", "rule"]) fun _ _ _ _ _ _ us hl => match us, hl with | [_, _, _], _ => rfl
  have F_all_stretches := fun_mk (st := s_all_stretches) l_all_stretches c_all_stretches k_all_stretches
  have b_all_stretches := F_all_stretches.binds (ps := ["rooms", "row"]) fun _ _ _ _ _ _ us hl => match us, hl with | [_, _], _ => rfl
  have F_stretches := fun_mk (st := s_stretches) l_stretches c_stretches k_stretches
  have b_stretches := F_stretches.binds (ps := ["rooms", "row"]) fun _ _ _ _ _ _ us hl => match us, hl with | [_, _], _ => rfl
  have F_lacking_in := fun_mk (st := s_lacking_in) l_lacking_in c_lacking_in k_lacking_in
  have b_lacking_in := F_lacking_in.binds (ps := ["rooms", "row", "rule"]) fun _ _ _ _ _ _ us hl => match us, hl with | [_, _, _], _ => rfl
  have F_l_begun := fun_mk (st := s_l_begun) l_l_begun c_l_begun k_l_begun
  have b_l_begun := F_l_begun.binds (ps := ["_law_script"]) fun _ _ _ _ _ _ us hl => match us, hl with | [_], _ => rfl
  have F_l_take := fun_mk (st := s_l_take) l_l_take c_l_take k_l_take
  have b_l_take := F_l_take.binds (ps := ["_law_box", "_law_many"]) fun _ _ _ _ _ _ us hl => match us, hl with | [_, _], _ => rfl
  have F_l_alike := fun_mk (st := s_l_alike) l_l_alike c_l_alike k_l_alike
  have b_l_alike := F_l_alike.binds (ps := ["_law_found", "_law_due"]) fun _ _ _ _ _ _ us hl => match us, hl with | [_, _], _ => rfl
  have F_l_row := fun_mk (st := s_l_row) l_l_row c_l_row k_l_row
  have b_l_row := F_l_row.binds (ps := ["_law_box", "_law_most"]) fun _ _ _ _ _ _ us hl => match us, hl with | [_, _], _ => rfl
  have F_l_dial := fun_mk (st := s_l_dial) l_l_dial c_l_dial k_l_dial
  have b_l_dial := F_l_dial.binds (ps := ["_law_rooms"]) fun _ _ _ _ _ _ us hl => match us, hl with | [_], _ => rfl
  have F_l_ask := fun_mk (st := s_l_ask) l_l_ask c_l_ask k_l_ask
  have b_l_ask := F_l_ask.binds (ps := ["_law_dial_here", "_law_page"]) fun _ _ _ _ _ _ us hl => match us, hl with | [_, _], _ => rfl
  have F_l_lacks := fun_mk (st := s_l_lacks) l_l_lacks c_l_lacks k_l_lacks
  have b_l_lacks := F_l_lacks.binds (ps := ["_law_rooms", "_law_row_here", "_law_rule"]) fun _ _ _ _ _ _ us hl => match us, hl with | [_, _, _], _ => rfl
  have F_l_parts := fun_mk (st := s_l_parts) l_l_parts c_l_parts k_l_parts
  have b_l_parts := F_l_parts.binds (ps := ["_law_rooms", "_law_row_here"]) fun _ _ _ _ _ _ us hl => match us, hl with | [_, _], _ => rfl
  have F_l_law := fun_mk (st := s_l_law) l_l_law c_l_law k_l_law
  have b_l_law := F_l_law.binds (ps := ["_law_script"]) fun _ _ _ _ _ _ us hl => match us, hl with | [_], _ => rfl
  have T : Txt K mg (⟨f_need_rooms, (PySem.W.fnOf "need_rooms" "need_rooms" (defArgs s_need_rooms) (defBody s_need_rooms) (defScope s_need_rooms) .none kV_need_rooms dc_need_rooms pm_need_rooms an_need_rooms cd_need_rooms ct_need_rooms), f_is_page, (PySem.W.fnOf "is_page" "is_page" (defArgs s_is_page) (defBody s_is_page) (defScope s_is_page) .none kV_is_page dc_is_page pm_is_page an_is_page cd_is_page ct_is_page), f_need_row, (PySem.W.fnOf "need_row" "need_row" (defArgs s_need_row) (defBody s_need_row) (defScope s_need_row) .none kV_need_row dc_need_row pm_need_row an_need_row cd_need_row ct_need_row), f_need_both, (PySem.W.fnOf "need_both" "need_both" (defArgs s_need_both) (defBody s_need_both) (defScope s_need_both) .none kV_need_both dc_need_both pm_need_both an_need_both cd_need_both ct_need_both), f_Dial_init, (PySem.W.fnOf "__init__" "Dial.__init__" (defArgs s_Dial_init) (defBody s_Dial_init) (defScope s_Dial_init) .none kV_Dial_init dc_Dial_init pm_Dial_init an_Dial_init cd_Dial_init ct_Dial_init), f_Dial_ask, (PySem.W.fnOf "ask" "Dial.ask" (defArgs s_Dial_ask) (defBody s_Dial_ask) (defScope s_Dial_ask) .none kV_Dial_ask dc_Dial_ask pm_Dial_ask an_Dial_ask cd_Dial_ask ct_Dial_ask), f_Dial_pages, (PySem.W.fnOf "pages" "Dial.pages" (defArgs s_Dial_pages) (defBody s_Dial_pages) (defScope s_Dial_pages) .none kV_Dial_pages dc_Dial_pages pm_Dial_pages an_Dial_pages cd_Dial_pages ct_Dial_pages), f_Dial_looked, (PySem.W.fnOf "looked" "Dial.looked" (defArgs s_Dial_looked) (defBody s_Dial_looked) (defScope s_Dial_looked) .none kV_Dial_looked dc_Dial_looked pm_Dial_looked an_Dial_looked cd_Dial_looked ct_Dial_looked), f_Dial_points, (PySem.W.fnOf "points" "Dial.points" (defArgs s_Dial_points) (defBody s_Dial_points) (defScope s_Dial_points) .none kV_Dial_points dc_Dial_points pm_Dial_points an_Dial_points cd_Dial_points ct_Dial_points), f_Dial_lacked, (PySem.W.fnOf "lacked" "Dial.lacked" (defArgs s_Dial_lacked) (defBody s_Dial_lacked) (defScope s_Dial_lacked) .none kV_Dial_lacked dc_Dial_lacked pm_Dial_lacked an_Dial_lacked cd_Dial_lacked ct_Dial_lacked), f_round_told, (PySem.W.fnOf "round_told" "round_told" (defArgs s_round_told) (defBody s_round_told) (defScope s_round_told) .none kV_round_told dc_round_told pm_round_told an_round_told cd_round_told ct_round_told), f_need_rule, (PySem.W.fnOf "need_rule" "need_rule" (defArgs s_need_rule) (defBody s_need_rule) (defScope s_need_rule) .none kV_need_rule dc_need_rule pm_need_rule an_need_rule cd_need_rule ct_need_rule), f_by_row, (PySem.W.fnOf "by_row" "by_row" (defArgs s_by_row) (defBody s_by_row) (defScope s_by_row) .none kV_by_row dc_by_row pm_by_row an_by_row cd_by_row ct_by_row), f_all_lacking, (PySem.W.fnOf "all_lacking" "all_lacking" (defArgs s_all_lacking) (defBody s_all_lacking) (defScope s_all_lacking) .none kV_all_lacking dc_all_lacking pm_all_lacking an_all_lacking cd_all_lacking ct_all_lacking), f_all_stretches, (PySem.W.fnOf "all_stretches" "all_stretches" (defArgs s_all_stretches) (defBody s_all_stretches) (defScope s_all_stretches) .none kV_all_stretches dc_all_stretches pm_all_stretches an_all_stretches cd_all_stretches ct_all_stretches), f_stretches, (PySem.W.fnOf "stretches" "stretches" (defArgs s_stretches) (defBody s_stretches) (defScope s_stretches) .none kV_stretches dc_stretches pm_stretches an_stretches cd_stretches ct_stretches), f_lacking_in, (PySem.W.fnOf "lacking_in" "lacking_in" (defArgs s_lacking_in) (defBody s_lacking_in) (defScope s_lacking_in) .none kV_lacking_in dc_lacking_in pm_lacking_in an_lacking_in cd_lacking_in ct_lacking_in), f_l_begun, (PySem.W.fnOf "_law_begun" "_law_begun" (defArgs s_l_begun) (defBody s_l_begun) (defScope s_l_begun) .none kV_l_begun dc_l_begun pm_l_begun an_l_begun cd_l_begun ct_l_begun), f_l_take, (PySem.W.fnOf "_law_take" "_law_take" (defArgs s_l_take) (defBody s_l_take) (defScope s_l_take) .none kV_l_take dc_l_take pm_l_take an_l_take cd_l_take ct_l_take), f_l_alike, (PySem.W.fnOf "_law_alike" "_law_alike" (defArgs s_l_alike) (defBody s_l_alike) (defScope s_l_alike) .none kV_l_alike dc_l_alike pm_l_alike an_l_alike cd_l_alike ct_l_alike), f_l_row, (PySem.W.fnOf "_law_row" "_law_row" (defArgs s_l_row) (defBody s_l_row) (defScope s_l_row) .none kV_l_row dc_l_row pm_l_row an_l_row cd_l_row ct_l_row), f_l_dial, (PySem.W.fnOf "_law_dial" "_law_dial" (defArgs s_l_dial) (defBody s_l_dial) (defScope s_l_dial) .none kV_l_dial dc_l_dial pm_l_dial an_l_dial cd_l_dial ct_l_dial), f_l_ask, (PySem.W.fnOf "_law_ask" "_law_ask" (defArgs s_l_ask) (defBody s_l_ask) (defScope s_l_ask) .none kV_l_ask dc_l_ask pm_l_ask an_l_ask cd_l_ask ct_l_ask), f_l_lacks, (PySem.W.fnOf "_law_lacks" "_law_lacks" (defArgs s_l_lacks) (defBody s_l_lacks) (defScope s_l_lacks) .none kV_l_lacks dc_l_lacks pm_l_lacks an_l_lacks cd_l_lacks ct_l_lacks), f_l_parts, (PySem.W.fnOf "_law_parts" "_law_parts" (defArgs s_l_parts) (defBody s_l_parts) (defScope s_l_parts) .none kV_l_parts dc_l_parts pm_l_parts an_l_parts cd_l_parts ct_l_parts), fa, (PySem.W.fnOf "law" "law" (defArgs s_l_law) (defBody s_l_law) (defScope s_l_law) .none kV_l_law dc_l_law pm_l_law an_l_law cd_l_law ct_l_law), t_MOST_ROOMS, t_MOST_PAGES, t_MOST_ASKS, t_HAND, t_UNSEEN, A_RULES, C_Dial⟩ : Ad) := by
    constructor
    · exact F_need_rooms
    · exact b_need_rooms
    · exact PySem.W.mg_of X G a_need_rooms
    · exact F_is_page
    · exact b_is_page
    · exact PySem.W.mg_of X G a_is_page
    · exact F_need_row
    · exact b_need_row
    · exact PySem.W.mg_of X G a_need_row
    · exact F_need_both
    · exact b_need_both
    · exact PySem.W.mg_of X G a_need_both
    · exact F_Dial_init
    · exact b_Dial_init
    · exact ⟨mk_Dial, a_Dial_init, i_Dial_init, kc_Dial⟩
    · exact F_Dial_ask
    · exact b_Dial_ask
    · exact ⟨a_Dial_ask, i_Dial_ask, k_Dial_ask⟩
    · exact F_Dial_pages
    · exact b_Dial_pages
    · exact ⟨a_Dial_pages, i_Dial_pages, k_Dial_pages⟩
    · exact F_Dial_looked
    · exact b_Dial_looked
    · exact ⟨a_Dial_looked, i_Dial_looked, k_Dial_looked⟩
    · exact F_Dial_points
    · exact b_Dial_points
    · exact ⟨a_Dial_points, i_Dial_points, k_Dial_points⟩
    · exact F_Dial_lacked
    · exact b_Dial_lacked
    · exact ⟨a_Dial_lacked, i_Dial_lacked, k_Dial_lacked⟩
    · exact F_round_told
    · exact b_round_told
    · exact PySem.W.mg_of X G a_round_told
    · exact F_need_rule
    · exact b_need_rule
    · exact PySem.W.mg_of X G a_need_rule
    · exact F_by_row
    · exact b_by_row
    · exact PySem.W.mg_of X G a_by_row
    · exact F_all_lacking
    · exact b_all_lacking
    · exact PySem.W.mg_of X G a_all_lacking
    · exact F_all_stretches
    · exact b_all_stretches
    · exact PySem.W.mg_of X G a_all_stretches
    · exact F_stretches
    · exact b_stretches
    · exact PySem.W.mg_of X G a_stretches
    · exact F_lacking_in
    · exact b_lacking_in
    · exact PySem.W.mg_of X G a_lacking_in
    · exact F_l_begun
    · exact b_l_begun
    · exact PySem.W.mg_of X G a_l_begun
    · exact F_l_take
    · exact b_l_take
    · exact PySem.W.mg_of X G a_l_take
    · exact F_l_alike
    · exact b_l_alike
    · exact PySem.W.mg_of X G a_l_alike
    · exact F_l_row
    · exact b_l_row
    · exact PySem.W.mg_of X G a_l_row
    · exact F_l_dial
    · exact b_l_dial
    · exact PySem.W.mg_of X G a_l_dial
    · exact F_l_ask
    · exact b_l_ask
    · exact PySem.W.mg_of X G a_l_ask
    · exact F_l_lacks
    · exact b_l_lacks
    · exact PySem.W.mg_of X G a_l_lacks
    · exact F_l_parts
    · exact b_l_parts
    · exact PySem.W.mg_of X G a_l_parts
    · exact F_l_law
    · exact b_l_law
    · exact hfa
    · exact PySem.W.mg_of X G v_MOST_ROOMS
    · exact PySem.W.mg_of X G v_MOST_PAGES
    · exact PySem.W.mg_of X G v_MOST_ASKS
    · exact PySem.W.mg_of X G v_HAND
    · exact PySem.W.mg_of X G v_UNSEEN
    · exact PySem.W.mg_of X G v_RULES
    · exact ⟨_, rfl, fun H => .inr ⟨_, _, _, l_RULES, rfl, rfl, (by show 3 ≤ sizeLine; decide), .cons ⟨_, rfl⟩ (.cons ⟨_, rfl⟩ (.cons ⟨_, rfl⟩ (.nil)))⟩⟩
    · exact ⟨pg_Dial, hd_Dial, po_Dial, sa_Dial⟩
    · exact PySem.W.mg_of X G aC_Dial
    · exact n_Dial_here
    · exact n_Dial_seen
    · exact n_Dial_hand
    · exact n_Dial_lacks
    · exact PySem.W.mg_none_of X G z_len
    · exact PySem.W.mg_none_of X G z_int
    · exact PySem.W.mg_none_of X G z_min
    · exact PySem.W.mg_none_of X G z_list
    · exact PySem.W.mg_none_of X G z_set
    · exact PySem.W.mg_none_of X G z_tuple
    · exact PySem.W.mg_none_of X G z_isinstance
    · exact PySem.W.mg_none_of X G z_range
    · exact PySem.W.mg_none_of X G z_enumerate
    · exact PySem.W.mg_none_of X G z_bool
    · exact PySem.W.mg_none_of X G z_str
  exact ⟨PySem.W.fnOf "law" "law" (defArgs s_l_law) (defBody s_l_law) (defScope s_l_law) .none kV_l_law dc_l_law pm_l_law an_l_law cd_l_law ct_l_law, fun s v => .of_eq rfl, fun base _ _ => ok_l_law T⟩
theorem walk {l : PySem.W.OpenLaw} {q : Program} {loose : List Str} {XP : (Str → Option Value) → Heap → Prop} {YP : World → Heap → Prop} {d : DefRec} {K : Params → PySem.W.Frag} (hn : l.most = some 63) (hdf : d.params.defaults = [])
    (hY : ∀ (w : World) (h : Heap), YP w h → (K w.params).In h)
    (F : ∀ (w : World) (mg : Str → Option Value) (fa : Addr) (h : Heap), (K w.params).In h → h.Ns mainGlobals mg → mg d.name = some (.ref fa) →
      ∃ fd : FuncData, (∀ (s : Shared) (u : Value), BindsTo s fd ⟨[u], []⟩ [("_law_script", u)]) ∧ ∀ base : Heap, (K w.params).In base → base.Ns mainGlobals mg → FnOk l.prog w (K w.params) mg base CX0 7 fa fd ["_law_script"] (sp_l_law (K w.params))) :
    PySem.W.WalkO q loose XP YP l.row.toRowW d [] (fun f vs => PySem.call f vs) :=
  L2.walk_of (n := 63) (k := 7) (x := "_law_script") (CX := fun _ => CX0) (sp := fun w => sp_l_law (K w.params)) hn (by decide) hdf ⟨rfl, by decide, by decide⟩ hY F (fun _ _ a ns hl _ hS => ⟨a, ns, rfl, hS, hl, fun _ => rfl⟩) fun _ _ _ _ _ z => z
end Cw
open PySem PySem.W PyProof.Rows
set_option maxRecDepth 100000 in
set_option maxHeartbeats 0 in
theorem PySem.Challenge.cw_clockhand_k09_stretches_holds : PySem.Challenge.rw_clockhand_k09_stretches.Holds := by
  w_on; o_law; k_head; (case hw => w_witness2)
  k_fill
  refine Cw.walk (l := PySem.Challenge.rw_clockhand_k09_stretches) rfl rfl (fun w h Y => PySem.W.kIn_of Y) ?F
  case F =>
    intro w mg fa h KX G hmg
    refine' Cw.all_mk KX G hmg ?aC_Dial ?a_need_rooms ?l_need_rooms ?c_need_rooms ?k_need_rooms ?a_is_page ?l_is_page ?c_is_page ?k_is_page ?a_need_row ?l_need_row ?c_need_row ?k_need_row ?a_need_both ?l_need_both ?c_need_both ?k_need_both ?a_Dial_init ?i_Dial_init ?l_Dial_init ?c_Dial_init ?k_Dial_init ?a_Dial_ask ?i_Dial_ask ?l_Dial_ask ?c_Dial_ask ?k_Dial_ask ?a_Dial_pages ?i_Dial_pages ?l_Dial_pages ?c_Dial_pages ?k_Dial_pages ?a_Dial_looked ?i_Dial_looked ?l_Dial_looked ?c_Dial_looked ?k_Dial_looked ?a_Dial_points ?i_Dial_points ?l_Dial_points ?c_Dial_points ?k_Dial_points ?a_Dial_lacked ?i_Dial_lacked ?l_Dial_lacked ?c_Dial_lacked ?k_Dial_lacked ?a_round_told ?l_round_told ?c_round_told ?k_round_told ?a_need_rule ?l_need_rule ?c_need_rule ?k_need_rule ?a_by_row ?l_by_row ?c_by_row ?k_by_row ?a_all_lacking ?l_all_lacking ?c_all_lacking ?k_all_lacking ?a_all_stretches ?l_all_stretches ?c_all_stretches ?k_all_stretches ?a_stretches ?l_stretches ?c_stretches ?k_stretches ?a_lacking_in ?l_lacking_in ?c_lacking_in ?k_lacking_in ?a_l_begun ?l_l_begun ?c_l_begun ?k_l_begun ?a_l_take ?l_l_take ?c_l_take ?k_l_take ?a_l_alike ?l_l_alike ?c_l_alike ?k_l_alike ?a_l_row ?l_l_row ?c_l_row ?k_l_row ?a_l_dial ?l_l_dial ?c_l_dial ?k_l_dial ?a_l_ask ?l_l_ask ?c_l_ask ?k_l_ask ?a_l_lacks ?l_l_lacks ?c_l_lacks ?k_l_lacks ?a_l_parts ?l_l_parts ?c_l_parts ?k_l_parts ?a_l_law ?l_l_law ?c_l_law ?k_l_law ?pg_Dial ?hd_Dial ?po_Dial ?sa_Dial ?mk_Dial ?kc_Dial ?n_Dial_here ?n_Dial_seen ?n_Dial_hand ?n_Dial_lacks ?v_MOST_ROOMS ?v_MOST_PAGES ?v_MOST_ASKS ?v_HAND ?v_UNSEEN ?v_RULES ?l_RULES ?z_len ?z_int ?z_min ?z_list ?z_set ?z_tuple ?z_isinstance ?z_range ?z_enumerate ?z_bool ?z_str
    (case aC_Dial => k_is)
    (case a_need_rooms => k_is)
    (case l_need_rooms => k_is)
    (case c_need_rooms => k_is)
    (case k_need_rooms => k_is)
    (case a_is_page => k_is)
    (case l_is_page => k_is)
    (case c_is_page => k_is)
    (case k_is_page => k_is)
    (case a_need_row => k_is)
    (case l_need_row => k_is)
    (case c_need_row => k_is)
    (case k_need_row => k_is)
    (case a_need_both => k_is)
    (case l_need_both => k_is)
    (case c_need_both => k_is)
    (case k_need_both => k_is)
    (case a_Dial_init => k_is)
    (case i_Dial_init => k_is)
    (case l_Dial_init => k_is)
    (case c_Dial_init => k_is)
    (case k_Dial_init => k_is)
    (case a_Dial_ask => k_is)
    (case i_Dial_ask => k_is)
    (case l_Dial_ask => k_is)
    (case c_Dial_ask => k_is)
    (case k_Dial_ask => k_is)
    (case a_Dial_pages => k_is)
    (case i_Dial_pages => k_is)
    (case l_Dial_pages => k_is)
    (case c_Dial_pages => k_is)
    (case k_Dial_pages => k_is)
    (case a_Dial_looked => k_is)
    (case i_Dial_looked => k_is)
    (case l_Dial_looked => k_is)
    (case c_Dial_looked => k_is)
    (case k_Dial_looked => k_is)
    (case a_Dial_points => k_is)
    (case i_Dial_points => k_is)
    (case l_Dial_points => k_is)
    (case c_Dial_points => k_is)
    (case k_Dial_points => k_is)
    (case a_Dial_lacked => k_is)
    (case i_Dial_lacked => k_is)
    (case l_Dial_lacked => k_is)
    (case c_Dial_lacked => k_is)
    (case k_Dial_lacked => k_is)
    (case a_round_told => k_is)
    (case l_round_told => k_is)
    (case c_round_told => k_is)
    (case k_round_told => k_is)
    (case a_need_rule => k_is)
    (case l_need_rule => k_is)
    (case c_need_rule => k_is)
    (case k_need_rule => k_is)
    (case a_by_row => k_is)
    (case l_by_row => k_is)
    (case c_by_row => k_is)
    (case k_by_row => k_is)
    (case a_all_lacking => k_is)
    (case l_all_lacking => k_is)
    (case c_all_lacking => k_is)
    (case k_all_lacking => k_is)
    (case a_all_stretches => k_is)
    (case l_all_stretches => k_is)
    (case c_all_stretches => k_is)
    (case k_all_stretches => k_is)
    (case a_stretches => k_is)
    (case l_stretches => k_is)
    (case c_stretches => k_is)
    (case k_stretches => k_is)
    (case a_lacking_in => k_is)
    (case l_lacking_in => k_is)
    (case c_lacking_in => k_is)
    (case k_lacking_in => k_is)
    (case a_l_begun => k_is)
    (case l_l_begun => k_is)
    (case c_l_begun => k_is)
    (case k_l_begun => k_is)
    (case a_l_take => k_is)
    (case l_l_take => k_is)
    (case c_l_take => k_is)
    (case k_l_take => k_is)
    (case a_l_alike => k_is)
    (case l_l_alike => k_is)
    (case c_l_alike => k_is)
    (case k_l_alike => k_is)
    (case a_l_row => k_is)
    (case l_l_row => k_is)
    (case c_l_row => k_is)
    (case k_l_row => k_is)
    (case a_l_dial => k_is)
    (case l_l_dial => k_is)
    (case c_l_dial => k_is)
    (case k_l_dial => k_is)
    (case a_l_ask => k_is)
    (case l_l_ask => k_is)
    (case c_l_ask => k_is)
    (case k_l_ask => k_is)
    (case a_l_lacks => k_is)
    (case l_l_lacks => k_is)
    (case c_l_lacks => k_is)
    (case k_l_lacks => k_is)
    (case a_l_parts => k_is)
    (case l_l_parts => k_is)
    (case c_l_parts => k_is)
    (case k_l_parts => k_is)
    (case a_l_law => k_is)
    (case l_l_law => k_is)
    (case c_l_law => k_is)
    (case k_l_law => k_is)
    (case pg_Dial => k_is)
    (case hd_Dial => k_is)
    (case po_Dial => k_is)
    (case sa_Dial => k_is)
    (case mk_Dial => k_is)
    (case kc_Dial => k_is)
    (case n_Dial_here => k_is)
    (case n_Dial_seen => k_is)
    (case n_Dial_hand => k_is)
    (case n_Dial_lacks => k_is)
    (case v_MOST_ROOMS => k_is)
    (case v_MOST_PAGES => k_is)
    (case v_MOST_ASKS => k_is)
    (case v_HAND => k_is)
    (case v_UNSEEN => k_is)
    (case v_RULES => k_is)
    (case l_RULES => k_is)
    (case z_len => k_is)
    (case z_int => k_is)
    (case z_min => k_is)
    (case z_list => k_is)
    (case z_set => k_is)
    (case z_tuple => k_is)
    (case z_isinstance => k_is)
    (case z_range => k_is)
    (case z_enumerate => k_is)
    (case z_bool => k_is)
    (case z_str => k_is)
#print axioms PySem.Challenge.cw_clockhand_k09_stretches_holds

