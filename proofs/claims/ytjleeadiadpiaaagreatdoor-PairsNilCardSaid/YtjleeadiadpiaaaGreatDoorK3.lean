import Derived.Test.YtjleeadiadpiaaaGreatDoorK2
set_option linter.unusedVariables false
set_option linter.unusedSimpArgs false
set_option maxRecDepth 10000
namespace Go.Proofs.YtjleeadiadpiaaaGreatDoor
open Go Go.Fx Go.RowKit
def rdB (x : Rd) : Bool := nameF x.ty && decide (smallF x.ty = x.ty) && lenIn x.val 1 200
def dnF (l : List Rd) : Bool := decide (l.length ≤ 16) && l.all rdB
def eitherF (x : Pm) : Bool := (uuidF x.uuid && decide (x.dn.length = 0)) || (decide (x.uuid = []) && (decide (0 < x.dn.length) && dnF x.dn))
def pmF (x : Pm) : Bool := eitherF x && (hrefF x.href && rightF x.shadow)
theorem dn_yes {l : List Rd} (h : l.length ≤ 16) (ha : l.all rdB = true) : dnF l = true := by simp [dnF, h, ha]
noncomputable def c76 : Code := bodyOf Tryz.f76
noncomputable def c76_0 : Code := kid 0 c76
noncomputable def o76_0 : Array Oper := regOps c76_0
noncomputable def c76_1 : Code := kid 1 c76
noncomputable def c76_1_0 : Code := kid 0 c76_1
noncomputable def o76_1_0 : Array Oper := regOps c76_1_0
noncomputable def c76_1_1 : Code := kid 1 c76_1
set_option maxHeartbeats 400000 in
theorem rd76_ok (cs : List Value) (x : Rd) (w : World) (h : kRd.R [] w cs x) : Calls Tryz.prog 76 #[.agg (cs).toArray] w (RetW [] w fun v _ => v = .bool (rdB x)) := by
 refine calls_of_S (n := 26) (c := c76) Tryz.func76 (by kernel_rfl) (by kernel_rfl) (Nat.le_of_ble_eq_true (by kernel_rfl)) ?_
 obtain ⟨_, _, rfl, ⟨rfl, hl101⟩, ⟨rfl, hl102⟩⟩ := h
 have hE0 : Eff [] w w := Eff.refl _ _
 refine S.seq (x := c76_0) (y := c76_1) (by kernel_rfl) ?_
 refine S.reg (ops := o76_0) (js := [0, 1]) (by kernel_rfl) (by kernel_rfl) ?_
 refine L.box [sv x.ty, sv x.val] (by kernel_rfl : lookAt _ _ _ _ = some ((Op.box 88 (Operand.tmp 0)), some 1)) (by kernel_rfl) ?_
 intro b103 w104 hs105 hz106 E107 B108
 have hE109 := hE0.and0 E107
 have := E107.size
 refine L.runU [1] [] [(2, .bool false)] (by kernel_rfl) (by kernel_rfl) ?_
 refine L.done ?_
 show S _ _ _ c76_1 _ _ _ _
 refine S.seq (x := c76_1_0) (y := c76_1_1) (by kernel_rfl) ?_
 refine S.draw (ops := o76_1_0) (Eff ([])) 24 #[false, false, false, false, false, false, false, false, false, false, false, false, false, false, false, false, false, false, false, false, false, false, false, false] (by kernel_rfl) (by kernel_rfl) (by kernel_rfl) (by kernel_rfl) ?_
 intro w110 E111 hw112
 have hE114 := hE109.and0 E111
 have := E111.size
 have B115 := B108.eff0 E111
 have hS113 := Eff.refl ([]) w110
 refine D.take 0 (.pointer (some ⟨b103, 0, none⟩)) (some 3) #[true, false, false, false, false, false, false, false, false, false, false, false, false, false, false, false, false, false, false, false, false, false, false, false] (by kernel_rfl) (by kernel_rfl) (by kernel_rfl) (fun _ _ _ _ h => LeaveP.put h (by kernel_rfl)) (.pure (n := 26) (by kernel_rfl)) hS113 ?_
 refine D.take 1 (sv x.ty) (some 4) #[true, true, false, false, false, false, false, false, false, false, false, false, false, false, false, false, false, false, false, false, false, false, false, false] (by kernel_rfl) (by kernel_rfl) (by kernel_rfl) (fun _ _ _ _ h => LeaveP.put h (by kernel_rfl)) (.val (n := 26) (by kernel_rfl : lookAt _ _ _ _ = some ((Op.load 9 (Operand.tmp 3)), some 4)) (by intro c e; cases e) (fun _ h => rx_load 0 (sv x.ty) ((B115.eff0 h).cells) (by kernel_rfl) (by kernel_rfl))) hS113 ?_
 refine D.all [2] (by kernel_rfl) (by kernel_rfl) ⟨?_, trivial⟩
 refine L.call (f := 77) (by kernel_rfl : lookAt _ _ _ _ = some ((Op.call { callee := (Callee.value (Operand.func 77)), args := #[(Operand.tmp 4)], argTypes := #[9] }), some 5)) e77 (by kernel_rfl) (name_ok x.ty _ (by omega)) ?_
 rintro _ w117 E118 rfl
 have hE120 := hE114.and0 E118
 have := E118.size
 have hS121 := hS113.and0 E118
 have B122 := B115.eff0 E118
 refine ⟨hS121, ?_⟩
 refine D.take 3 (.bool (nameF x.ty)) (some 6) #[true, true, true, true, false, false, false, false, false, false, false, false, false, false, false, false, false, false, false, false, false, false, false, false] (by kernel_rfl) (by kernel_rfl) (by kernel_rfl) (fun _ _ _ _ h => LeaveP.put h (by kernel_rfl)) (.pure (n := 26) (by kernel_rfl)) hS121 ?_
 refine X.splitB (G := fun σ => D _ _ _ _ _ _ _ _ σ _ _) (nameF x.ty) 6 (by kernel_rfl) (fun h123 => ?_) (fun h123 => ?_)
 ·refine D.take 4 (.pointer (some ⟨b103, 0, none⟩)) (some 7) #[true, true, true, true, true, false, false, false, false, false, false, false, false, false, false, false, false, false, false, false, false, false, false, false] (by kernel_rfl) (by kernel_rfl) (by kernel_rfl) (fun _ _ _ _ h => LeaveP.put h (by kernel_rfl)) (.pure (n := 26) (by kernel_rfl)) hS121 ?_
  refine D.take 5 (sv x.ty) (some 8) #[true, true, true, true, true, true, false, false, false, false, false, false, false, false, false, false, false, false, false, false, false, false, false, false] (by kernel_rfl) (by kernel_rfl) (by kernel_rfl) (fun _ _ _ _ h => LeaveP.put h (by kernel_rfl)) (.val (n := 26) (by kernel_rfl : lookAt _ _ _ _ = some ((Op.load 9 (Operand.tmp 7)), some 8)) (by intro c e; cases e) (fun _ h => rx_load 0 (sv x.ty) ((B115.eff0 h).cells) (by kernel_rfl) (by kernel_rfl))) hS121 ?_
  refine D.take 7 (.pointer (some ⟨b103, 0, none⟩)) (some 10) #[true, true, true, true, true, true, false, true, false, false, false, false, false, false, false, false, false, false, false, false, false, false, false, false] (by kernel_rfl) (by kernel_rfl) (by kernel_rfl) (fun _ _ _ _ h => LeaveP.put h (by kernel_rfl)) (.pure (n := 26) (by kernel_rfl)) hS121 ?_
  refine D.take 8 (sv x.ty) (some 11) #[true, true, true, true, true, true, false, true, true, false, false, false, false, false, false, false, false, false, false, false, false, false, false, false] (by kernel_rfl) (by kernel_rfl) (by kernel_rfl) (fun _ _ _ _ h => LeaveP.put h (by kernel_rfl)) (.val (n := 26) (by kernel_rfl : lookAt _ _ _ _ = some ((Op.load 9 (Operand.tmp 10)), some 11)) (by intro c e; cases e) (fun _ h => rx_load 0 (sv x.ty) ((B115.eff0 h).cells) (by kernel_rfl) (by kernel_rfl))) hS121 ?_
  refine D.all [6] (by kernel_rfl) (by kernel_rfl) ⟨?_, trivial⟩
  refine L.call (f := 78) (by kernel_rfl : lookAt _ _ _ _ = some ((Op.call { callee := (Callee.value (Operand.func 78)), args := #[(Operand.tmp 8)], argTypes := #[9] }), some 9)) e78 (by kernel_rfl) (small_ok x.ty _ (by omega)) ?_
  rintro _ w125 E126 rfl
  have hE128 := hE120.and0 E126
  have := E126.size
  have hS129 := hS121.and0 E126
  have B130 := B122.eff0 E126
  refine ⟨hS129, ?_⟩
  refine D.take 9 (.bool (decide (smallF x.ty = x.ty))) (some 12) #[true, true, true, true, true, true, true, true, true, true, false, false, false, false, false, false, false, false, false, false, false, false, false, false] (by kernel_rfl) (by kernel_rfl) (by kernel_rfl) (fun _ _ _ _ h => LeaveP.put h (by kernel_rfl)) (.val (n := 26) (by kernel_rfl : lookAt _ _ _ _ = some ((Op.binOp BinOp.eql 9 (Operand.tmp 9) (Operand.tmp 11) 9), some 12)) (by intro c e; cases e) (fun _ h => rx_strEql (smallF x.ty) x.ty (by kernel_rfl) (by kernel_rfl))) hS129 ?_
  refine D.take 10 (.bool (decide (smallF x.ty = x.ty))) (some 13) #[true, true, true, true, true, true, true, true, true, true, true, false, false, false, false, false, false, false, false, false, false, false, false, false] (by kernel_rfl) (by kernel_rfl) (by kernel_rfl) (fun _ _ _ _ h => LeaveP.put h (by kernel_rfl)) (.pure (n := 26) (by kernel_rfl)) hS129 ?_
  refine D.take 11 (.bool (decide (smallF x.ty = x.ty))) (some 14) #[true, true, true, true, true, true, true, true, true, true, true, true, false, false, false, false, false, false, false, false, false, false, false, false] (by kernel_rfl) (by kernel_rfl) (by kernel_rfl) (fun _ _ _ _ h => LeaveP.put h (by kernel_rfl)) (.pure (n := 26) (by kernel_rfl)) hS129 ?_
  refine X.splitP (G := fun σ => D _ _ _ _ _ _ _ _ σ _ _) (smallF x.ty = x.ty) 14 (by kernel_rfl) (fun h131 => ?_) (fun h131 => ?_)
  ·refine D.take 12 (.pointer (some ⟨b103, 1, none⟩)) (some 15) #[true, true, true, true, true, true, true, true, true, true, true, true, true, false, false, false, false, false, false, false, false, false, false, false] (by kernel_rfl) (by kernel_rfl) (by kernel_rfl) (fun _ _ _ _ h => LeaveP.put h (by kernel_rfl)) (.pure (n := 26) (by kernel_rfl)) hS129 ?_
   refine D.take 13 (sv x.val) (some 16) #[true, true, true, true, true, true, true, true, true, true, true, true, true, true, false, false, false, false, false, false, false, false, false, false] (by kernel_rfl) (by kernel_rfl) (by kernel_rfl) (fun _ _ _ _ h => LeaveP.put h (by kernel_rfl)) (.val (n := 26) (by kernel_rfl : lookAt _ _ _ _ = some ((Op.load 9 (Operand.tmp 15)), some 16)) (by intro c e; cases e) (fun _ h => rx_load 1 (sv x.val) ((B115.eff0 h).cells) (by kernel_rfl) (by kernel_rfl))) hS129 ?_
   refine D.take 14 (.int .i64 (((x.val.length : Nat) : Int))) (some 17) #[true, true, true, true, true, true, true, true, true, true, true, true, true, true, true, false, false, false, false, false, false, false, false, false] (by kernel_rfl) (by kernel_rfl) (by kernel_rfl) (fun _ _ _ _ h => LeaveP.put h (by kernel_rfl)) (.pure (n := 26) (by kernel_rfl)) hS129 ?_
   refine D.take 15 (.bool (decide (1 ≤ ((x.val.length : Nat) : Int)))) (some 18) #[true, true, true, true, true, true, true, true, true, true, true, true, true, true, true, true, false, false, false, false, false, false, false, false] (by kernel_rfl) (by kernel_rfl) (by kernel_rfl) (fun _ _ _ _ h => LeaveP.put h (by kernel_rfl)) (.pure (n := 26) (by kernel_rfl)) hS129 ?_
   refine D.take 16 (.bool (decide (1 ≤ ((x.val.length : Nat) : Int)))) (some 19) #[true, true, true, true, true, true, true, true, true, true, true, true, true, true, true, true, true, false, false, false, false, false, false, false] (by kernel_rfl) (by kernel_rfl) (by kernel_rfl) (fun _ _ _ _ h => LeaveP.put h (by kernel_rfl)) (.pure (n := 26) (by kernel_rfl)) hS129 ?_
   refine D.take 17 (.bool (decide (1 ≤ ((x.val.length : Nat) : Int)))) (some 20) #[true, true, true, true, true, true, true, true, true, true, true, true, true, true, true, true, true, true, false, false, false, false, false, false] (by kernel_rfl) (by kernel_rfl) (by kernel_rfl) (fun _ _ _ _ h => LeaveP.put h (by kernel_rfl)) (.pure (n := 26) (by kernel_rfl)) hS129 ?_
   refine X.splitP (G := fun σ => D _ _ _ _ _ _ _ _ σ _ _) (1 ≤ ((x.val.length : Nat) : Int)) 20 (by kernel_rfl) (fun h132 => ?_) (fun h132 => ?_)
   ·refine D.take 18 (.pointer (some ⟨b103, 1, none⟩)) (some 21) #[true, true, true, true, true, true, true, true, true, true, true, true, true, true, true, true, true, true, true, false, false, false, false, false] (by kernel_rfl) (by kernel_rfl) (by kernel_rfl) (fun _ _ _ _ h => LeaveP.put h (by kernel_rfl)) (.pure (n := 26) (by kernel_rfl)) hS129 ?_
    refine D.take 19 (sv x.val) (some 22) #[true, true, true, true, true, true, true, true, true, true, true, true, true, true, true, true, true, true, true, true, false, false, false, false] (by kernel_rfl) (by kernel_rfl) (by kernel_rfl) (fun _ _ _ _ h => LeaveP.put h (by kernel_rfl)) (.val (n := 26) (by kernel_rfl : lookAt _ _ _ _ = some ((Op.load 9 (Operand.tmp 21)), some 22)) (by intro c e; cases e) (fun _ h => rx_load 1 (sv x.val) ((B115.eff0 h).cells) (by kernel_rfl) (by kernel_rfl))) hS129 ?_
    refine D.take 20 (.int .i64 (((x.val.length : Nat) : Int))) (some 23) #[true, true, true, true, true, true, true, true, true, true, true, true, true, true, true, true, true, true, true, true, true, false, false, false] (by kernel_rfl) (by kernel_rfl) (by kernel_rfl) (fun _ _ _ _ h => LeaveP.put h (by kernel_rfl)) (.pure (n := 26) (by kernel_rfl)) hS129 ?_
    refine D.take 21 (.bool (decide (((x.val.length : Nat) : Int) ≤ 200))) (some 24) #[true, true, true, true, true, true, true, true, true, true, true, true, true, true, true, true, true, true, true, true, true, true, false, false] (by kernel_rfl) (by kernel_rfl) (by kernel_rfl) (fun _ _ _ _ h => LeaveP.put h (by kernel_rfl)) (.pure (n := 26) (by kernel_rfl)) hS129 ?_
    refine D.take 22 (.bool (decide (((x.val.length : Nat) : Int) ≤ 200))) (some 25) #[true, true, true, true, true, true, true, true, true, true, true, true, true, true, true, true, true, true, true, true, true, true, true, false] (by kernel_rfl) (by kernel_rfl) (by kernel_rfl) (fun _ _ _ _ h => LeaveP.put h (by kernel_rfl)) (.pure (n := 26) (by kernel_rfl)) hS129 ?_
    refine D.all [23] (by kernel_rfl) (by kernel_rfl) ⟨?_, trivial⟩
    refine Step.pure (v := .bool (decide (((x.val.length : Nat) : Int) ≤ 200))) (by kernel_rfl) ?_
    refine ⟨hS129, ?_⟩
    refine D.done _ (by kernel_rfl) ?_
    show S _ _ _ c76_1_1 _ _ _ _
    refine S.ret (by kernel_rfl) ?_
    show Leave _ _ _ _ _ _ _ _
    refine Leave.ret1 (x := .tmp 2) (.bool (decide (((x.val.length : Nat) : Int) ≤ 200))) (by kernel_rfl) (.ofT (by kernel_rfl)) ?_
    refine ⟨_, rfl, hE128, ?_⟩
    exact bool_eq (by (first | rfl | (rw [Bool.eq_iff_iff]; simp only [rdB, lenIn, Bool.and_eq_true, Bool.or_eq_true, Bool.not_eq_true', decide_eq_true_eq, decide_eq_false_iff_not, Bool.and_true, Bool.true_and, Bool.and_false, Bool.false_and, Bool.or_true, Bool.true_or, Bool.or_false, Bool.false_or, Bool.not_true, Bool.not_false, Bool.false_eq_true, false_iff, iff_false, true_iff, iff_true, eq_self_iff_true, not_true_eq_false, not_false_eq_true]; omega) | (grind [rdB, lenIn]) | (simp [rdB, lenIn]; done) | (rw [Bool.eq_iff_iff]; simp [rdB, lenIn]; done) | (rw [Bool.eq_iff_iff]; simp [rdB, lenIn]; omega) | (simp_all [rdB, lenIn]; done) | (rw [Bool.eq_iff_iff]; simp_all [rdB, lenIn]; done) | (rw [Bool.eq_iff_iff]; simp_all [rdB, lenIn]; omega)))
   ·refine D.take 18 (undef) (some 21) #[true, true, true, true, true, true, true, true, true, true, true, true, true, true, true, true, true, true, true, false, false, false, false, false] (by kernel_rfl) (by kernel_rfl) (by kernel_rfl) (fun _ _ _ _ h => LeaveP.put h (by kernel_rfl)) (.pure (n := 26) (by kernel_rfl)) hS129 ?_
    refine D.take 19 (undef) (some 22) #[true, true, true, true, true, true, true, true, true, true, true, true, true, true, true, true, true, true, true, true, false, false, false, false] (by kernel_rfl) (by kernel_rfl) (by kernel_rfl) (fun _ _ _ _ h => LeaveP.put h (by kernel_rfl)) (.pure (n := 26) (by kernel_rfl)) hS129 ?_
    refine D.take 20 (undef) (some 23) #[true, true, true, true, true, true, true, true, true, true, true, true, true, true, true, true, true, true, true, true, true, false, false, false] (by kernel_rfl) (by kernel_rfl) (by kernel_rfl) (fun _ _ _ _ h => LeaveP.put h (by kernel_rfl)) (.pure (n := 26) (by kernel_rfl)) hS129 ?_
    refine D.take 21 (undef) (some 24) #[true, true, true, true, true, true, true, true, true, true, true, true, true, true, true, true, true, true, true, true, true, true, false, false] (by kernel_rfl) (by kernel_rfl) (by kernel_rfl) (fun _ _ _ _ h => LeaveP.put h (by kernel_rfl)) (.pure (n := 26) (by kernel_rfl)) hS129 ?_
    refine D.take 22 (.bool false) (some 25) #[true, true, true, true, true, true, true, true, true, true, true, true, true, true, true, true, true, true, true, true, true, true, true, false] (by kernel_rfl) (by kernel_rfl) (by kernel_rfl) (fun _ _ _ _ h => LeaveP.put h (by kernel_rfl)) (.pure (n := 26) (by kernel_rfl)) hS129 ?_
    refine D.all [23] (by kernel_rfl) (by kernel_rfl) ⟨?_, trivial⟩
    refine Step.pure (v := .bool false) (by kernel_rfl) ?_
    refine ⟨hS129, ?_⟩
    refine D.done _ (by kernel_rfl) ?_
    show S _ _ _ c76_1_1 _ _ _ _
    refine S.ret (by kernel_rfl) ?_
    show Leave _ _ _ _ _ _ _ _
    refine Leave.ret1 (x := .tmp 2) (.bool false) (by kernel_rfl) (.ofT (by kernel_rfl)) ?_
    refine ⟨_, rfl, hE128, ?_⟩
    exact bool_eq (by (first | rfl | (rw [Bool.eq_iff_iff]; simp only [rdB, lenIn, Bool.and_eq_true, Bool.or_eq_true, Bool.not_eq_true', decide_eq_true_eq, decide_eq_false_iff_not, Bool.and_true, Bool.true_and, Bool.and_false, Bool.false_and, Bool.or_true, Bool.true_or, Bool.or_false, Bool.false_or, Bool.not_true, Bool.not_false, Bool.false_eq_true, false_iff, iff_false, true_iff, iff_true, eq_self_iff_true, not_true_eq_false, not_false_eq_true]; omega) | (grind [rdB, lenIn]) | (simp [rdB, lenIn]; done) | (rw [Bool.eq_iff_iff]; simp [rdB, lenIn]; done) | (rw [Bool.eq_iff_iff]; simp [rdB, lenIn]; omega) | (simp_all [rdB, lenIn]; done) | (rw [Bool.eq_iff_iff]; simp_all [rdB, lenIn]; done) | (rw [Bool.eq_iff_iff]; simp_all [rdB, lenIn]; omega)))
  ·refine D.take 12 (undef) (some 15) #[true, true, true, true, true, true, true, true, true, true, true, true, true, false, false, false, false, false, false, false, false, false, false, false] (by kernel_rfl) (by kernel_rfl) (by kernel_rfl) (fun _ _ _ _ h => LeaveP.put h (by kernel_rfl)) (.pure (n := 26) (by kernel_rfl)) hS129 ?_
   refine D.take 13 (undef) (some 16) #[true, true, true, true, true, true, true, true, true, true, true, true, true, true, false, false, false, false, false, false, false, false, false, false] (by kernel_rfl) (by kernel_rfl) (by kernel_rfl) (fun _ _ _ _ h => LeaveP.put h (by kernel_rfl)) (.pure (n := 26) (by kernel_rfl)) hS129 ?_
   refine D.take 14 (undef) (some 17) #[true, true, true, true, true, true, true, true, true, true, true, true, true, true, true, false, false, false, false, false, false, false, false, false] (by kernel_rfl) (by kernel_rfl) (by kernel_rfl) (fun _ _ _ _ h => LeaveP.put h (by kernel_rfl)) (.pure (n := 26) (by kernel_rfl)) hS129 ?_
   refine D.take 15 (undef) (some 18) #[true, true, true, true, true, true, true, true, true, true, true, true, true, true, true, true, false, false, false, false, false, false, false, false] (by kernel_rfl) (by kernel_rfl) (by kernel_rfl) (fun _ _ _ _ h => LeaveP.put h (by kernel_rfl)) (.pure (n := 26) (by kernel_rfl)) hS129 ?_
   refine D.take 16 (.bool false) (some 19) #[true, true, true, true, true, true, true, true, true, true, true, true, true, true, true, true, true, false, false, false, false, false, false, false] (by kernel_rfl) (by kernel_rfl) (by kernel_rfl) (fun _ _ _ _ h => LeaveP.put h (by kernel_rfl)) (.pure (n := 26) (by kernel_rfl)) hS129 ?_
   refine D.take 17 (.bool false) (some 20) #[true, true, true, true, true, true, true, true, true, true, true, true, true, true, true, true, true, true, false, false, false, false, false, false] (by kernel_rfl) (by kernel_rfl) (by kernel_rfl) (fun _ _ _ _ h => LeaveP.put h (by kernel_rfl)) (.pure (n := 26) (by kernel_rfl)) hS129 ?_
   refine D.take 18 (undef) (some 21) #[true, true, true, true, true, true, true, true, true, true, true, true, true, true, true, true, true, true, true, false, false, false, false, false] (by kernel_rfl) (by kernel_rfl) (by kernel_rfl) (fun _ _ _ _ h => LeaveP.put h (by kernel_rfl)) (.pure (n := 26) (by kernel_rfl)) hS129 ?_
   refine D.take 19 (undef) (some 22) #[true, true, true, true, true, true, true, true, true, true, true, true, true, true, true, true, true, true, true, true, false, false, false, false] (by kernel_rfl) (by kernel_rfl) (by kernel_rfl) (fun _ _ _ _ h => LeaveP.put h (by kernel_rfl)) (.pure (n := 26) (by kernel_rfl)) hS129 ?_
   refine D.take 20 (undef) (some 23) #[true, true, true, true, true, true, true, true, true, true, true, true, true, true, true, true, true, true, true, true, true, false, false, false] (by kernel_rfl) (by kernel_rfl) (by kernel_rfl) (fun _ _ _ _ h => LeaveP.put h (by kernel_rfl)) (.pure (n := 26) (by kernel_rfl)) hS129 ?_
   refine D.take 21 (undef) (some 24) #[true, true, true, true, true, true, true, true, true, true, true, true, true, true, true, true, true, true, true, true, true, true, false, false] (by kernel_rfl) (by kernel_rfl) (by kernel_rfl) (fun _ _ _ _ h => LeaveP.put h (by kernel_rfl)) (.pure (n := 26) (by kernel_rfl)) hS129 ?_
   refine D.take 22 (.bool false) (some 25) #[true, true, true, true, true, true, true, true, true, true, true, true, true, true, true, true, true, true, true, true, true, true, true, false] (by kernel_rfl) (by kernel_rfl) (by kernel_rfl) (fun _ _ _ _ h => LeaveP.put h (by kernel_rfl)) (.pure (n := 26) (by kernel_rfl)) hS129 ?_
   refine D.all [23] (by kernel_rfl) (by kernel_rfl) ⟨?_, trivial⟩
   refine Step.pure (v := .bool false) (by kernel_rfl) ?_
   refine ⟨hS129, ?_⟩
   refine D.done _ (by kernel_rfl) ?_
   show S _ _ _ c76_1_1 _ _ _ _
   refine S.ret (by kernel_rfl) ?_
   show Leave _ _ _ _ _ _ _ _
   refine Leave.ret1 (x := .tmp 2) (.bool false) (by kernel_rfl) (.ofT (by kernel_rfl)) ?_
   refine ⟨_, rfl, hE128, ?_⟩
   exact bool_eq (by (first | rfl | (rw [Bool.eq_iff_iff]; simp only [rdB, lenIn, Bool.and_eq_true, Bool.or_eq_true, Bool.not_eq_true', decide_eq_true_eq, decide_eq_false_iff_not, Bool.and_true, Bool.true_and, Bool.and_false, Bool.false_and, Bool.or_true, Bool.true_or, Bool.or_false, Bool.false_or, Bool.not_true, Bool.not_false, Bool.false_eq_true, false_iff, iff_false, true_iff, iff_true, eq_self_iff_true, not_true_eq_false, not_false_eq_true]; omega) | (grind [rdB, lenIn]) | (simp [rdB, lenIn]; done) | (rw [Bool.eq_iff_iff]; simp [rdB, lenIn]; done) | (rw [Bool.eq_iff_iff]; simp [rdB, lenIn]; omega) | (simp_all [rdB, lenIn]; done) | (rw [Bool.eq_iff_iff]; simp_all [rdB, lenIn]; done) | (rw [Bool.eq_iff_iff]; simp_all [rdB, lenIn]; omega)))
 ·refine D.take 4 (undef) (some 7) #[true, true, true, true, true, false, false, false, false, false, false, false, false, false, false, false, false, false, false, false, false, false, false, false] (by kernel_rfl) (by kernel_rfl) (by kernel_rfl) (fun _ _ _ _ h => LeaveP.put h (by kernel_rfl)) (.pure (n := 26) (by kernel_rfl)) hS121 ?_
  refine D.take 5 (undef) (some 8) #[true, true, true, true, true, true, false, false, false, false, false, false, false, false, false, false, false, false, false, false, false, false, false, false] (by kernel_rfl) (by kernel_rfl) (by kernel_rfl) (fun _ _ _ _ h => LeaveP.put h (by kernel_rfl)) (.pure (n := 26) (by kernel_rfl)) hS121 ?_
  refine D.take 6 (undef) (some 9) #[true, true, true, true, true, true, true, false, false, false, false, false, false, false, false, false, false, false, false, false, false, false, false, false] (by kernel_rfl) (by kernel_rfl) (by kernel_rfl) (fun _ _ _ _ h => LeaveP.put h (by kernel_rfl)) (.pure (n := 26) (by kernel_rfl)) hS121 ?_
  refine D.take 7 (undef) (some 10) #[true, true, true, true, true, true, true, true, false, false, false, false, false, false, false, false, false, false, false, false, false, false, false, false] (by kernel_rfl) (by kernel_rfl) (by kernel_rfl) (fun _ _ _ _ h => LeaveP.put h (by kernel_rfl)) (.pure (n := 26) (by kernel_rfl)) hS121 ?_
  refine D.take 8 (undef) (some 11) #[true, true, true, true, true, true, true, true, true, false, false, false, false, false, false, false, false, false, false, false, false, false, false, false] (by kernel_rfl) (by kernel_rfl) (by kernel_rfl) (fun _ _ _ _ h => LeaveP.put h (by kernel_rfl)) (.pure (n := 26) (by kernel_rfl)) hS121 ?_
  refine D.take 9 (undef) (some 12) #[true, true, true, true, true, true, true, true, true, true, false, false, false, false, false, false, false, false, false, false, false, false, false, false] (by kernel_rfl) (by kernel_rfl) (by kernel_rfl) (fun _ _ _ _ h => LeaveP.put h (by kernel_rfl)) (.pure (n := 26) (by kernel_rfl)) hS121 ?_
  refine D.take 10 (.bool false) (some 13) #[true, true, true, true, true, true, true, true, true, true, true, false, false, false, false, false, false, false, false, false, false, false, false, false] (by kernel_rfl) (by kernel_rfl) (by kernel_rfl) (fun _ _ _ _ h => LeaveP.put h (by kernel_rfl)) (.pure (n := 26) (by kernel_rfl)) hS121 ?_
  refine D.take 11 (.bool false) (some 14) #[true, true, true, true, true, true, true, true, true, true, true, true, false, false, false, false, false, false, false, false, false, false, false, false] (by kernel_rfl) (by kernel_rfl) (by kernel_rfl) (fun _ _ _ _ h => LeaveP.put h (by kernel_rfl)) (.pure (n := 26) (by kernel_rfl)) hS121 ?_
  refine D.take 12 (undef) (some 15) #[true, true, true, true, true, true, true, true, true, true, true, true, true, false, false, false, false, false, false, false, false, false, false, false] (by kernel_rfl) (by kernel_rfl) (by kernel_rfl) (fun _ _ _ _ h => LeaveP.put h (by kernel_rfl)) (.pure (n := 26) (by kernel_rfl)) hS121 ?_
  refine D.take 13 (undef) (some 16) #[true, true, true, true, true, true, true, true, true, true, true, true, true, true, false, false, false, false, false, false, false, false, false, false] (by kernel_rfl) (by kernel_rfl) (by kernel_rfl) (fun _ _ _ _ h => LeaveP.put h (by kernel_rfl)) (.pure (n := 26) (by kernel_rfl)) hS121 ?_
  refine D.take 14 (undef) (some 17) #[true, true, true, true, true, true, true, true, true, true, true, true, true, true, true, false, false, false, false, false, false, false, false, false] (by kernel_rfl) (by kernel_rfl) (by kernel_rfl) (fun _ _ _ _ h => LeaveP.put h (by kernel_rfl)) (.pure (n := 26) (by kernel_rfl)) hS121 ?_
  refine D.take 15 (undef) (some 18) #[true, true, true, true, true, true, true, true, true, true, true, true, true, true, true, true, false, false, false, false, false, false, false, false] (by kernel_rfl) (by kernel_rfl) (by kernel_rfl) (fun _ _ _ _ h => LeaveP.put h (by kernel_rfl)) (.pure (n := 26) (by kernel_rfl)) hS121 ?_
  refine D.take 16 (.bool false) (some 19) #[true, true, true, true, true, true, true, true, true, true, true, true, true, true, true, true, true, false, false, false, false, false, false, false] (by kernel_rfl) (by kernel_rfl) (by kernel_rfl) (fun _ _ _ _ h => LeaveP.put h (by kernel_rfl)) (.pure (n := 26) (by kernel_rfl)) hS121 ?_
  refine D.take 17 (.bool false) (some 20) #[true, true, true, true, true, true, true, true, true, true, true, true, true, true, true, true, true, true, false, false, false, false, false, false] (by kernel_rfl) (by kernel_rfl) (by kernel_rfl) (fun _ _ _ _ h => LeaveP.put h (by kernel_rfl)) (.pure (n := 26) (by kernel_rfl)) hS121 ?_
  refine D.take 18 (undef) (some 21) #[true, true, true, true, true, true, true, true, true, true, true, true, true, true, true, true, true, true, true, false, false, false, false, false] (by kernel_rfl) (by kernel_rfl) (by kernel_rfl) (fun _ _ _ _ h => LeaveP.put h (by kernel_rfl)) (.pure (n := 26) (by kernel_rfl)) hS121 ?_
  refine D.take 19 (undef) (some 22) #[true, true, true, true, true, true, true, true, true, true, true, true, true, true, true, true, true, true, true, true, false, false, false, false] (by kernel_rfl) (by kernel_rfl) (by kernel_rfl) (fun _ _ _ _ h => LeaveP.put h (by kernel_rfl)) (.pure (n := 26) (by kernel_rfl)) hS121 ?_
  refine D.take 20 (undef) (some 23) #[true, true, true, true, true, true, true, true, true, true, true, true, true, true, true, true, true, true, true, true, true, false, false, false] (by kernel_rfl) (by kernel_rfl) (by kernel_rfl) (fun _ _ _ _ h => LeaveP.put h (by kernel_rfl)) (.pure (n := 26) (by kernel_rfl)) hS121 ?_
  refine D.take 21 (undef) (some 24) #[true, true, true, true, true, true, true, true, true, true, true, true, true, true, true, true, true, true, true, true, true, true, false, false] (by kernel_rfl) (by kernel_rfl) (by kernel_rfl) (fun _ _ _ _ h => LeaveP.put h (by kernel_rfl)) (.pure (n := 26) (by kernel_rfl)) hS121 ?_
  refine D.take 22 (.bool false) (some 25) #[true, true, true, true, true, true, true, true, true, true, true, true, true, true, true, true, true, true, true, true, true, true, true, false] (by kernel_rfl) (by kernel_rfl) (by kernel_rfl) (fun _ _ _ _ h => LeaveP.put h (by kernel_rfl)) (.pure (n := 26) (by kernel_rfl)) hS121 ?_
  refine D.all [23] (by kernel_rfl) (by kernel_rfl) ⟨?_, trivial⟩
  refine Step.pure (v := .bool false) (by kernel_rfl) ?_
  refine ⟨hS121, ?_⟩
  refine D.done _ (by kernel_rfl) ?_
  show S _ _ _ c76_1_1 _ _ _ _
  refine S.ret (by kernel_rfl) ?_
  show Leave _ _ _ _ _ _ _ _
  refine Leave.ret1 (x := .tmp 2) (.bool false) (by kernel_rfl) (.ofT (by kernel_rfl)) ?_
  refine ⟨_, rfl, hE120, ?_⟩
  exact bool_eq (by (first | rfl | (rw [Bool.eq_iff_iff]; simp only [rdB, lenIn, Bool.and_eq_true, Bool.or_eq_true, Bool.not_eq_true', decide_eq_true_eq, decide_eq_false_iff_not, Bool.and_true, Bool.true_and, Bool.and_false, Bool.false_and, Bool.or_true, Bool.true_or, Bool.or_false, Bool.false_or, Bool.not_true, Bool.not_false, Bool.false_eq_true, false_iff, iff_false, true_iff, iff_true, eq_self_iff_true, not_true_eq_false, not_false_eq_true]; omega) | (grind [rdB, lenIn]) | (simp [rdB, lenIn]; done) | (rw [Bool.eq_iff_iff]; simp [rdB, lenIn]; done) | (rw [Bool.eq_iff_iff]; simp [rdB, lenIn]; omega) | (simp_all [rdB, lenIn]; done) | (rw [Bool.eq_iff_iff]; simp_all [rdB, lenIn]; done) | (rw [Bool.eq_iff_iff]; simp_all [rdB, lenIn]; omega)))
noncomputable def c148 : Code := bodyOf Tryz.f148
noncomputable def c148_0 : Code := kid 0 c148
noncomputable def o148_0 : Array Oper := regOps c148_0
noncomputable def c148_1 : Code := kid 1 c148
noncomputable def c148_1_0 : Code := kid 0 c148_1
noncomputable def c148_1_0_0 : Code := kid 0 c148_1_0
noncomputable def o148_1_0_0 : Array Oper := regOps c148_1_0_0
noncomputable def c148_1_0_1 : Code := kid 1 c148_1_0
noncomputable def c148_n6 : Code := kid 0 c148_1_0_1
noncomputable def c148_n7 : Code := kid 0 c148_n6
noncomputable def c148_n8 : Code := kid 0 c148_n7
noncomputable def o148_n8 : Array Oper := regOps c148_n8
noncomputable def c148_n9 : Code := kid 1 c148_n7
noncomputable def c148_n10 : Code := kid 0 c148_n9
noncomputable def c148_n11 : Code := kid 0 c148_n10
noncomputable def c148_n12 : Code := kid 1 c148_n10
noncomputable def c148_n13 : Code := kid 1 c148_n9
noncomputable def c148_n14 : Code := kid 0 c148_n13
noncomputable def c148_n15 : Code := kid 0 c148_n14
noncomputable def c148_n16 : Code := kid 0 c148_n15
noncomputable def o148_n16 : Array Oper := regOps c148_n16
noncomputable def c148_n17 : Code := kid 1 c148_n15
noncomputable def c148_n18 : Code := kid 0 c148_n17
noncomputable def o148_n18 : Array Oper := regOps c148_n18
noncomputable def c148_n19 : Code := kid 1 c148_n17
noncomputable def c148_n20 : Code := kid 0 c148_n19
noncomputable def c148_n21 : Code := kid 0 c148_n20
noncomputable def o148_n21 : Array Oper := regOps c148_n21
noncomputable def c148_n22 : Code := kid 1 c148_n20
noncomputable def c148_n23 : Code := kid 1 c148_n19
noncomputable def c148_n24 : Code := kid 1 c148_n13
noncomputable def o148_n24 : Array Oper := regOps c148_n24
noncomputable def c148_1_1 : Code := kid 1 c148_1
noncomputable def c148_1_1_0 : Code := kid 0 c148_1_1
noncomputable def o148_1_1_0 : Array Oper := regOps c148_1_1_0
noncomputable def c148_1_1_1 : Code := kid 1 c148_1_1
set_option maxHeartbeats 400000 in
theorem ix148_ok (a : Option Addr) (cap : Nat) (l : List Rd) (F : Value) (p : Rd → Bool) (w : World) (h : Sl kRd [] w a l) (hF : ∀ w' x cs, kRd.R [] w' cs x → Eff [] w w' → CallV Tryz.prog F [.agg cs.toArray] w' (RetW [] w' fun v _ => v = .bool (p x))) : Calls Tryz.prog 148 #[.slice a l.length cap, F] w (RetW [] w fun v _ => v = .int .i64 (optI (l.findIdx? p))) := by
 refine calls_of_S (n := 19) (c := c148) Tryz.func148 (by kernel_rfl) (by kernel_rfl) (Nat.le_of_ble_eq_true (by kernel_rfl)) ?_
 have hl := h.1
 have hE0 : Eff [] w w := Eff.refl _ _
 refine S.seq (x := c148_0) (y := c148_1) (by kernel_rfl) ?_
 refine S.reg (ops := o148_0) (js := [0]) (by kernel_rfl) (by kernel_rfl) ?_
 refine L.runU [0] [] [(4, .int .i64 0)] (by kernel_rfl) (by kernel_rfl) ?_
 refine L.done ?_
 show S _ _ _ c148_1 _ _ _ _
 refine S.seq (x := c148_1_0) (y := c148_1_1) (by kernel_rfl) ?_
 refine S.seq (x := c148_1_0_0) (y := c148_1_0_1) (by kernel_rfl) ?_
 refine S.reg (ops := o148_1_0_0) (js := [0, 1, 2]) (by kernel_rfl) (by kernel_rfl) ?_
 refine L.runU [0, 1, 2] [] [(6, .slice a l.length cap), (7, .int .i64 (((l.length : Nat) : Int))), (8, .int .i64 0)] (by kernel_rfl) (by kernel_rfl) ?_
 refine L.done ?_
 show S _ _ _ c148_1_0_1 _ _ _ _
 refine S.block (id := 0) (x := c148_n6) (by kernel_rfl) ?_
 refine S.loop (x := c148_n7) (fun m σ' ds' w' => ∃ (k : Nat), m = l.length - k ∧ (k ≤ l.length) ∧ (∀ j y, j < k → l[j]? = some y → p y = false) ∧ Sl kRd [] w' a l ∧ Eff [] w w' ∧ w.heap.size ≤ w'.heap.size ∧ ds' = [] ∧ ∃ u, σ' = slots u [(0, .slice a l.length cap), (1, F), (7, .int .i64 (((l.length : Nat) : Int))), (8, .int .i64 (((k : Nat) : Int)))]) (l.length - 0) (by kernel_rfl) ⟨0, rfl, (by omega), (by exact find_none), h, hE0, (Nat.le_refl _), rfl, _, Holds.eq (l := [(0, .slice a l.length cap), (1, F), (7, .int .i64 (((l.length : Nat) : Int))), (8, .int .i64 0)]) ⟨by kernel_rfl, by kernel_rfl, by kernel_rfl, by kernel_rfl, trivial⟩⟩ ?_
 rintro m102 σ' ds' w101 ⟨k, hm104, hk, ha, F105, hE106, hz107, rfl, u103, rfl⟩
 refine S.seq (x := c148_n8) (y := c148_n9) (by kernel_rfl) ?_
 refine S.reg (ops := o148_n8) (js := [0]) (by kernel_rfl) (by kernel_rfl) ?_
 refine L.runU [0] [] [(9, .bool (decide (((k : Nat) : Int) < ((l.length : Nat) : Int))))] (by kernel_rfl) (by kernel_rfl) ?_
 refine L.done ?_
 show S _ _ _ c148_n9 _ _ _ _
 refine S.seq (x := c148_n10) (y := c148_n13) (by kernel_rfl) ?_
 refine S.condP (((k : Nat) : Int) < ((l.length : Nat) : Int)) (o := (Operand.tmp 9)) (x := c148_n11) (y := c148_n12) (by kernel_rfl) (by kernel_rfl) (fun h108 => ?_) (fun h108 => ?_)
 ·refine S.skip (by kernel_rfl) ?_
  show S _ _ _ c148_n13 _ _ _ _
  refine S.seq (x := c148_n14) (y := c148_n24) (by kernel_rfl) ?_
  refine S.block (id := 1) (x := c148_n15) (by kernel_rfl) ?_
  refine S.seq (x := c148_n16) (y := c148_n17) (by kernel_rfl) ?_
  refine S.reg (ops := o148_n16) (js := [0, 1]) (by kernel_rfl) (by kernel_rfl) ?_
  refine L.runU [0, 1] [] [(10, .int .i64 (((k : Nat) : Int))), (5, .int .i64 (((k : Nat) : Int)))] (by kernel_rfl) (by kernel_rfl) ?_
  refine L.done ?_
  show S _ _ _ c148_n17 _ _ _ _
  refine S.seq (x := c148_n18) (y := c148_n19) (by kernel_rfl) ?_
  refine S.reg (ops := o148_n18) (js := [0, 1, 2, 3, 4, 5]) (by kernel_rfl) (by kernel_rfl) ?_
  refine L.runU [0, 1, 2] [3, 4, 5] [(11, F), (12, .slice a l.length cap), (13, .int .i64 (((k : Nat) : Int)))] (by kernel_rfl) (by kernel_rfl) ?_
  obtain ⟨x112, hx113⟩ : ∃ x, (l)[k]? = some x := ⟨_, List.getElem?_eq_getElem (by omega)⟩
  obtain ⟨p109, _, hp110, A111, ⟨_, _, rfl, ⟨rfl, hl114⟩, ⟨rfl, hl115⟩⟩⟩ := F105.open_ hx113
  refine L.val (.pointer (some (p109.add (k * 2)))) (by kernel_rfl : lookAt _ _ _ _ = some ((Op.indexAddr 28 (Operand.tmp 12) (Operand.tmp 13)), some 14)) (by intro c e; cases e) (rx_indexAddr (e := 88) (sz := 2) (a := a) (p := p109) (len := l.length) (cap := cap) (kk := .i64) (i := ((k : Nat) : Int)) k (k * 2) (by kernel_rfl) hp110 (by kernel_rfl) (by kernel_rfl) (by kernel_rfl) (by omega) (by omega) (by omega)) ?_
  refine L.val (.agg #[sv x112.ty, sv x112.val]) (by kernel_rfl : lookAt _ _ _ _ = some ((Op.load 88 (Operand.tmp 14)), some 15)) (by intro c e; cases e) (rx_load 0 (.agg #[sv x112.ty, sv x112.val]) (A111.1) (by kernel_rfl) (by kernel_rfl)) ?_
  refine L.callV (Y := F) (args := [.agg #[sv x112.ty, sv x112.val]]) (by kernel_rfl : lookAt _ _ _ _ = some ((Op.call { callee := (Callee.value (Operand.tmp 11)), args := #[(Operand.tmp 15)], argTypes := #[88] }), some 16)) (by kernel_rfl) (by kernel_rfl) (hF _ x112 [sv x112.ty, sv x112.val] ⟨[sv x112.ty], [sv x112.val], rfl, ⟨rfl, by omega⟩, ⟨rfl, by omega⟩⟩ hE106) ?_
  rintro _ w116 ⟨E117, rfl⟩
  have hE118 := hE106.and0 E117
  have := E117.size
  have R119 := F105.step same E117 no0
  have A120 := A111.step same E117 no0
  refine L.done ?_
  show S _ _ _ c148_n19 _ _ _ _
  refine S.cond (p x112) (o := (Operand.tmp 16)) (x := c148_n20) (y := c148_n23) (by kernel_rfl) (by kernel_rfl) (fun h121 => ?_) (fun h121 => ?_)
  ·refine S.seq (x := c148_n21) (y := c148_n22) (by kernel_rfl) ?_
   refine S.reg (ops := o148_n21) (js := [0, 1]) (by kernel_rfl) (by kernel_rfl) ?_
   refine L.runU [0, 1] [] [(17, .int .i64 (((k : Nat) : Int))), (4, .int .i64 (((k : Nat) : Int)))] (by kernel_rfl) (by kernel_rfl) ?_
   refine L.done ?_
   show S _ _ _ c148_n22 _ _ _ _
   refine S.ret (by kernel_rfl) ?_
   show Leave _ _ _ _ _ _ _ _
   refine Leave.ret1 (x := .tmp 4) (.int .i64 (((k : Nat) : Int))) (by kernel_rfl) (.ofT (by kernel_rfl)) ?_
   refine ⟨_, rfl, hE118, ?_⟩
   exact int_i64 (by rw [find_hit ha hx113 (by simp_all)]; rfl)
  ·refine S.skip (by kernel_rfl) ?_
   show S _ _ _ c148_n24 _ _ _ _
   refine S.reg (ops := o148_n24) (js := [0, 1]) (by kernel_rfl) (by kernel_rfl) ?_
   refine L.runU [0] [1] [(18, .int .i64 (IntKind.i64.wrap (((k : Nat) : Int) + 1)))] (by kernel_rfl) (by kernel_rfl) ?_
   refine X.re64 (G := fun σ => L _ _ _ _ _ _ σ _ _) (d := 18) (((k : Nat) : Int) + 1) (((k + 1 : Nat) : Int)) (by kernel_rfl) (by omega) ?_
   refine L.runU [1] [] [(8, .int .i64 (((k + 1 : Nat) : Int)))] (by kernel_rfl) (by kernel_rfl) ?_
   refine L.done ?_
   show ∃ m', m' < _ ∧ _
   refine ⟨l.length - (k + 1), ?_, ⟨k + 1, rfl, (by omega), (by exact find_snoc ha hx113 (by simp_all)), R119, hE118, (by omega), rfl, _, Holds.eq (l := [(0, .slice a l.length cap), (1, F), (7, .int .i64 (((l.length : Nat) : Int))), (8, .int .i64 (((k + 1 : Nat) : Int)))]) ⟨by kernel_rfl, by kernel_rfl, by kernel_rfl, by kernel_rfl, trivial⟩⟩⟩
   omega
 ·refine S.exit (id := 0) (by kernel_rfl) ?_
  show S _ _ _ c148_1_1 _ _ _ _
  refine S.seq (x := c148_1_1_0) (y := c148_1_1_1) (by kernel_rfl) ?_
  refine S.reg (ops := o148_1_1_0) (js := [0]) (by kernel_rfl) (by kernel_rfl) ?_
  refine L.runU [0] [] [(4, .int .i64 (-1))] (by kernel_rfl) (by kernel_rfl) ?_
  refine L.done ?_
  show S _ _ _ c148_1_1_1 _ _ _ _
  refine S.ret (by kernel_rfl) ?_
  show Leave _ _ _ _ _ _ _ _
  refine Leave.ret1 (x := .tmp 4) (.int .i64 (-1)) (by kernel_rfl) (.ofT (by kernel_rfl)) ?_
  refine ⟨_, rfl, hE106, ?_⟩
  exact int_i64 (by rw [find_miss ha (by omega)]; rfl)
noncomputable def c118 : Code := bodyOf Tryz.f118
noncomputable def c118_0 : Code := kid 0 c118
noncomputable def o118_0 : Array Oper := regOps c118_0
noncomputable def c118_1 : Code := kid 1 c118
noncomputable def c118_1_0 : Code := kid 0 c118_1
noncomputable def o118_1_0 : Array Oper := regOps c118_1_0
noncomputable def c118_1_1 : Code := kid 1 c118_1
set_option maxHeartbeats 400000 in
theorem cont118_ok (a : Option Addr) (cap : Nat) (l : List Rd) (F : Value) (p : Rd → Bool) (w : World) (h : Sl kRd [] w a l) (hF : ∀ w' x cs, kRd.R [] w' cs x → Eff [] w w' → CallV Tryz.prog F [.agg cs.toArray] w' (RetW [] w' fun v _ => v = .bool (p x))) : Calls Tryz.prog 118 #[.slice a l.length cap, F] w (RetW [] w fun v _ => v = .bool (l.any p)) := by
 refine calls_of_S (n := 9) (c := c118) Tryz.func118 (by kernel_rfl) (by kernel_rfl) (Nat.le_of_ble_eq_true (by kernel_rfl)) ?_
 have hE0 : Eff [] w w := Eff.refl _ _
 refine S.seq (x := c118_0) (y := c118_1) (by kernel_rfl) ?_
 refine S.reg (ops := o118_0) (js := [0]) (by kernel_rfl) (by kernel_rfl) ?_
 refine L.runU [0] [] [(4, .bool false)] (by kernel_rfl) (by kernel_rfl) ?_
 refine L.done ?_
 show S _ _ _ c118_1 _ _ _ _
 refine S.seq (x := c118_1_0) (y := c118_1_1) (by kernel_rfl) ?_
 refine S.reg (ops := o118_1_0) (js := [0, 1, 2, 3, 4]) (by kernel_rfl) (by kernel_rfl) ?_
 refine L.runU [0, 1] [2, 3, 4] [(5, .slice a l.length cap), (6, F)] (by kernel_rfl) (by kernel_rfl) ?_
 refine L.call (f := 148) (by kernel_rfl : lookAt _ _ _ _ = some ((Op.call { callee := (Callee.value (Operand.func 148)), args := #[(Operand.tmp 5), (Operand.tmp 6)], argTypes := #[28, 130] }), some 7)) e148 (by kernel_rfl) (ix148_ok a cap l F p _ h.wk0 (fun w' x cs hx E => hF w' x cs hx (hE0.and0 E))) ?_
 rintro _ w102 E103 rfl
 have hE105 := hE0.and0 E103
 have := E103.size
 have R106 := h.step same E103 no0
 refine L.runU [3, 4] [] [(8, .bool (decide (0 ≤ optI (l.findIdx? p)))), (4, .bool (decide (0 ≤ optI (l.findIdx? p))))] (by kernel_rfl) (by kernel_rfl) ?_
 refine L.done ?_
 show S _ _ _ c118_1_1 _ _ _ _
 refine S.ret (by kernel_rfl) ?_
 show Leave _ _ _ _ _ _ _ _
 refine Leave.ret1 (x := .tmp 4) (.bool (decide (0 ≤ optI (l.findIdx? p)))) (by kernel_rfl) (.ofT (by kernel_rfl)) ?_
 refine ⟨_, rfl, hE105, ?_⟩
 exact bool_eq (any_find _ _)
noncomputable def c119 : Code := bodyOf Tryz.f119
noncomputable def c119_0 : Code := kid 0 c119
noncomputable def o119_0 : Array Oper := regOps c119_0
noncomputable def c119_1 : Code := kid 1 c119
noncomputable def c119_1_0 : Code := kid 0 c119_1
noncomputable def o119_1_0 : Array Oper := regOps c119_1_0
noncomputable def c119_1_1 : Code := kid 1 c119_1
set_option maxHeartbeats 400000 in
theorem cl119_ok (cs : List Value) (x : Rd) (b : Nat) (F : Value) (p : Rd → Bool) (w : World) (h : kRd.R [] w cs x) (hB : Blk w b [F] 130) (hF : ∀ w' x cs, kRd.R [] w' cs x → Eff [] w w' → CallV Tryz.prog F [.agg cs.toArray] w' (RetW [] w' fun v _ => v = .bool (p x))) : Calls Tryz.prog 119 #[.agg (cs).toArray, .pointer (some ⟨b, 0, none⟩)] w (RetW [] w fun v _ => v = .bool (!p x)) := by
 refine calls_of_S (n := 8) (c := c119) Tryz.func119 (by kernel_rfl) (by kernel_rfl) (Nat.le_of_ble_eq_true (by kernel_rfl)) ?_
 obtain ⟨_, _, rfl, ⟨rfl, hl101⟩, ⟨rfl, hl102⟩⟩ := h
 have hE0 : Eff [] w w := Eff.refl _ _
 refine S.seq (x := c119_0) (y := c119_1) (by kernel_rfl) ?_
 refine S.reg (ops := o119_0) (js := [0, 1]) (by kernel_rfl) (by kernel_rfl) ?_
 refine L.box [sv x.ty, sv x.val] (by kernel_rfl : lookAt _ _ _ _ = some ((Op.box 88 (Operand.tmp 0)), some 2)) (by kernel_rfl) ?_
 intro b103 w104 hs105 hz106 E107 B108
 have hE109 := hE0.and0 E107
 have := E107.size
 have B110 := hB.eff0 E107
 refine L.runU [1] [] [(3, .bool false)] (by kernel_rfl) (by kernel_rfl) ?_
 refine L.done ?_
 show S _ _ _ c119_1 _ _ _ _
 refine S.seq (x := c119_1_0) (y := c119_1_1) (by kernel_rfl) ?_
 refine S.reg (ops := o119_1_0) (js := [0, 1, 2, 3, 4]) (by kernel_rfl) (by kernel_rfl) ?_
 refine L.val (F) (by kernel_rfl : lookAt _ _ _ _ = some ((Op.load 130 (Operand.tmp 1)), some 4)) (by intro c e; cases e) (rx_load 0 (F) (B110.cells) (by kernel_rfl) (by kernel_rfl)) ?_
 refine L.val (.agg #[sv x.ty, sv x.val]) (by kernel_rfl : lookAt _ _ _ _ = some ((Op.load 88 (Operand.tmp 2)), some 5)) (by intro c e; cases e) (rx_load 0 (.agg #[sv x.ty, sv x.val]) (B108.cells) (by kernel_rfl) (by kernel_rfl)) ?_
 refine L.callV (Y := F) (args := [.agg #[sv x.ty, sv x.val]]) (by kernel_rfl : lookAt _ _ _ _ = some ((Op.call { callee := (Callee.value (Operand.tmp 4)), args := #[(Operand.tmp 5)], argTypes := #[88] }), some 6)) (by kernel_rfl) (by kernel_rfl) (hF _ x [sv x.ty, sv x.val] ⟨[sv x.ty], [sv x.val], rfl, ⟨rfl, by omega⟩, ⟨rfl, by omega⟩⟩ hE109) ?_
 rintro _ w111 ⟨E112, rfl⟩
 have hE113 := hE109.and0 E112
 have := E112.size
 have B114 := B110.eff0 E112
 have B115 := B108.eff0 E112
 refine L.runU [3, 4] [] [(7, .bool (!(p x))), (3, .bool (!(p x)))] (by kernel_rfl) (by kernel_rfl) ?_
 refine L.done ?_
 show S _ _ _ c119_1_1 _ _ _ _
 refine S.ret (by kernel_rfl) ?_
 show Leave _ _ _ _ _ _ _ _
 refine Leave.ret1 (x := .tmp 3) (.bool (!(p x))) (by kernel_rfl) (.ofT (by kernel_rfl)) ?_
 refine ⟨_, rfl, hE113, ?_⟩
 rfl
noncomputable def c79 : Code := bodyOf Tryz.f79
noncomputable def c79_0 : Code := kid 0 c79
noncomputable def o79_0 : Array Oper := regOps c79_0
noncomputable def c79_1 : Code := kid 1 c79
noncomputable def c79_1_0 : Code := kid 0 c79_1
noncomputable def o79_1_0 : Array Oper := regOps c79_1_0
noncomputable def c79_1_1 : Code := kid 1 c79_1
set_option maxHeartbeats 400000 in
theorem each79_ok (a : Option Addr) (cap : Nat) (l : List Rd) (F : Value) (p : Rd → Bool) (hone : F.oneCell' = true) (w : World) (h : Sl kRd [] w a l) (hcells : F.cells = #[F]) (hF : ∀ w' x cs, kRd.R [] w' cs x → Eff [] w w' → CallV Tryz.prog F [.agg cs.toArray] w' (RetW [] w' fun v _ => v = .bool (p x))) : Calls Tryz.prog 79 #[.slice a l.length cap, F] w (RetW [] w fun v _ => v = .bool (l.all p)) := by
 refine calls_of_S (n := 9) (c := c79) Tryz.func79 (by kernel_rfl) (by kernel_rfl) (Nat.le_of_ble_eq_true (by kernel_rfl)) ?_
 have hE0 : Eff [] w w := Eff.refl _ _
 refine S.seq (x := c79_0) (y := c79_1) (by kernel_rfl) ?_
 refine S.reg (ops := o79_0) (js := [0, 1]) (by kernel_rfl) (by kernel_rfl) ?_
 refine L.box [F] (by kernel_rfl : lookAt _ _ _ _ = some ((Op.box 130 (Operand.tmp 1)), some 3)) (by exact hcells) ?_
 intro b101 w102 hs103 hz104 E105 B106
 have hE107 := hE0.and0 E105
 have := E105.size
 have R108 := h.step same E105 no0
 refine L.runU [1] [] [(4, .bool false)] (by kernel_rfl) (by kernel_rfl) ?_
 refine L.done ?_
 show S _ _ _ c79_1 _ _ _ _
 refine S.seq (x := c79_1_0) (y := c79_1_1) (by kernel_rfl) ?_
 refine S.reg (ops := o79_1_0) (js := [0, 1, 2, 3, 4]) (by kernel_rfl) (by kernel_rfl) ?_
 refine L.runU [0, 1] [2, 3, 4] [(5, .slice a l.length cap), (6, .func (.func 119) #[] #[.pointer (some ⟨b101, 0, none⟩)])] (by kernel_rfl) (by kernel_rfl) ?_
 refine L.call (f := 118) (by kernel_rfl : lookAt _ _ _ _ = some ((Op.call { callee := (Callee.value (Operand.func 118)), args := #[(Operand.tmp 5), (Operand.tmp 6)], argTypes := #[28, 130] }), some 7)) e118 (by kernel_rfl) (cont118_ok a cap l (.func (.func 119) #[] #[.pointer (some ⟨b101, 0, none⟩)]) (fun x => !p x) _ R108.wk0 (fun w' x cs hx E => .fn (first := #[]) (cap := #[.pointer (some ⟨b101, 0, none⟩)]) e119 (cl119_ok cs x b101 (F) p w' hx (B106.eff0 E) (fun w2 y ds hy E2 => (fun w' x cs hx E => hF w' x cs hx (hE107.and0 E)) w2 y ds hy (E.and0 E2))))) ?_
 rintro _ w110 E111 rfl
 have hE113 := hE107.and0 E111
 have := E111.size
 have R114 := R108.step same E111 no0
 have B115 := B106.eff0 E111
 refine L.runU [3, 4] [] [(8, .bool (!(l.any (fun x => !p x)))), (4, .bool (!(l.any (fun x => !p x))))] (by kernel_rfl) (by kernel_rfl) ?_
 refine L.done ?_
 show S _ _ _ c79_1_1 _ _ _ _
 refine S.ret (by kernel_rfl) ?_
 show Leave _ _ _ _ _ _ _ _
 refine Leave.ret1 (x := .tmp 4) (.bool (!(l.any (fun x => !p x)))) (by kernel_rfl) (.ofT (by kernel_rfl)) ?_
 refine ⟨_, rfl, hE113, ?_⟩
 exact bool_eq (by rw [List.not_any_eq_all_not]; simp)
noncomputable def c51 : Code := bodyOf Tryz.f51
noncomputable def c51_0 : Code := kid 0 c51
noncomputable def o51_0 : Array Oper := regOps c51_0
noncomputable def c51_1 : Code := kid 1 c51
noncomputable def c51_1_0 : Code := kid 0 c51_1
noncomputable def o51_1_0 : Array Oper := regOps c51_1_0
noncomputable def c51_1_1 : Code := kid 1 c51_1
noncomputable def c51_1_1_0 : Code := kid 0 c51_1_1
noncomputable def c51_n6 : Code := kid 0 c51_1_1_0
noncomputable def o51_n6 : Array Oper := regOps c51_n6
noncomputable def c51_n7 : Code := kid 1 c51_1_1_0
noncomputable def c51_n8 : Code := kid 0 c51_n7
noncomputable def c51_n9 : Code := kid 0 c51_n8
noncomputable def o51_n9 : Array Oper := regOps c51_n9
noncomputable def c51_n10 : Code := kid 1 c51_n8
noncomputable def c51_n11 : Code := kid 1 c51_n7
noncomputable def c51_1_1_1 : Code := kid 1 c51_1_1
noncomputable def c51_n13 : Code := kid 0 c51_1_1_1
noncomputable def o51_n13 : Array Oper := regOps c51_n13
noncomputable def c51_n14 : Code := kid 1 c51_1_1_1
set_option maxHeartbeats 400000 in
theorem dchk_ok (a : Option Addr) (cap : Nat) (l : List Rd) (w : World) (h : Sl kRd [] w a l) : Calls Tryz.prog 51 #[.slice a l.length cap] w (RetW [] w fun v _ => v = .int .i64 (if dnF l = true then 0 else 2)) := by
 refine calls_of_S (n := 13) (c := c51) Tryz.func51 (by kernel_rfl) (by kernel_rfl) (Nat.le_of_ble_eq_true (by kernel_rfl)) ?_
 have hl := h.1
 have hE0 : Eff [] w w := Eff.refl _ _
 refine S.seq (x := c51_0) (y := c51_1) (by kernel_rfl) ?_
 refine S.reg (ops := o51_0) (js := [0]) (by kernel_rfl) (by kernel_rfl) ?_
 refine L.runU [0] [] [(2, .int .i64 0)] (by kernel_rfl) (by kernel_rfl) ?_
 refine L.done ?_
 show S _ _ _ c51_1 _ _ _ _
 refine S.seq (x := c51_1_0) (y := c51_1_1) (by kernel_rfl) ?_
 refine S.reg (ops := o51_1_0) (js := [0]) (by kernel_rfl) (by kernel_rfl) ?_
 refine L.runU [0] [] [(3, .func (.func 76) #[] #[])] (by kernel_rfl) (by kernel_rfl) ?_
 refine L.done ?_
 show S _ _ _ c51_1_1 _ _ _ _
 refine S.seq (x := c51_1_1_0) (y := c51_1_1_1) (by kernel_rfl) ?_
 refine S.seq (x := c51_n6) (y := c51_n7) (by kernel_rfl) ?_
 refine S.reg (ops := o51_n6) (js := [0, 1, 2, 3, 4, 5, 6, 7, 8]) (by kernel_rfl) (by kernel_rfl) ?_
 refine L.runU [0, 1, 2, 3] [4, 5, 6, 7, 8] [(4, .slice a l.length cap), (5, .int .i64 (((l.length : Nat) : Int))), (6, .bool (decide (16 < ((l.length : Nat) : Int)))), (7, .bool (decide (16 < ((l.length : Nat) : Int))))] (by kernel_rfl) (by kernel_rfl) ?_
 refine X.splitP (G := fun σ => L _ _ _ _ _ _ σ _ _) (16 < ((l.length : Nat) : Int)) 7 (by kernel_rfl) (fun h101 => ?_) (fun h101 => ?_)
 ·refine L.runU [4, 5, 6, 7, 8] [] [(8, undef), (9, undef), (10, undef), (11, undef), (12, .bool true)] (by kernel_rfl) (by kernel_rfl) ?_
  refine L.done ?_
  show S _ _ _ c51_n7 _ _ _ _
  refine S.condT (o := (Operand.tmp 12)) (x := c51_n8) (y := c51_n11) (by kernel_rfl) (by kernel_rfl) ?_
  refine S.seq (x := c51_n9) (y := c51_n10) (by kernel_rfl) ?_
  refine S.reg (ops := o51_n9) (js := [0]) (by kernel_rfl) (by kernel_rfl) ?_
  refine L.runU [0] [] [(2, .int .i64 2)] (by kernel_rfl) (by kernel_rfl) ?_
  refine L.done ?_
  show S _ _ _ c51_n10 _ _ _ _
  refine S.ret (by kernel_rfl) ?_
  show Leave _ _ _ _ _ _ _ _
  refine Leave.ret1 (x := .tmp 2) (.int .i64 2) (by kernel_rfl) (.ofT (by kernel_rfl)) ?_
  refine ⟨_, rfl, hE0, ?_⟩
  exact int_i64 (by rw [if_neg (by intro hc; simp only [dnF, Bool.and_eq_true, decide_eq_true_eq] at hc; first | omega | simp_all)])
 ·refine L.runU [4, 5] [6, 7, 8] [(8, .slice a l.length cap), (9, .func (.func 76) #[] #[])] (by kernel_rfl) (by kernel_rfl) ?_
  refine L.call (f := 79) (by kernel_rfl : lookAt _ _ _ _ = some ((Op.call { callee := (Callee.value (Operand.func 79)), args := #[(Operand.tmp 8), (Operand.tmp 9)], argTypes := #[28, 130] }), some 10)) e79 (by kernel_rfl) (each79_ok a cap l (.func (.func 76) #[] #[]) rdB rfl _ h.wk0 rfl (fun w' x cs hx E => .fn (first := #[]) (cap := #[]) e76 (rd76_ok cs x w' hx))) ?_
  rintro _ w103 E104 rfl
  have hE106 := hE0.and0 E104
  have := E104.size
  have R107 := h.step same E104 no0
  refine L.runU [7, 8] [] [(11, .bool (!(l.all rdB))), (12, .bool (!(l.all rdB)))] (by kernel_rfl) (by kernel_rfl) ?_
  refine L.done ?_
  show S _ _ _ c51_n7 _ _ _ _
  refine S.cond (!(l.all rdB)) (o := (Operand.tmp 12)) (x := c51_n8) (y := c51_n11) (by kernel_rfl) (by kernel_rfl) (fun h108 => ?_) (fun h108 => ?_)
  ·refine S.seq (x := c51_n9) (y := c51_n10) (by kernel_rfl) ?_
   refine S.reg (ops := o51_n9) (js := [0]) (by kernel_rfl) (by kernel_rfl) ?_
   refine L.runU [0] [] [(2, .int .i64 2)] (by kernel_rfl) (by kernel_rfl) ?_
   refine L.done ?_
   show S _ _ _ c51_n10 _ _ _ _
   refine S.ret (by kernel_rfl) ?_
   show Leave _ _ _ _ _ _ _ _
   refine Leave.ret1 (x := .tmp 2) (.int .i64 2) (by kernel_rfl) (.ofT (by kernel_rfl)) ?_
   refine ⟨_, rfl, hE106, ?_⟩
   exact int_i64 (by rw [if_neg (by intro hc; simp only [dnF, Bool.and_eq_true, decide_eq_true_eq] at hc; first | omega | simp_all)])
  ·refine S.skip (by kernel_rfl) ?_
   show S _ _ _ c51_1_1_1 _ _ _ _
   refine S.seq (x := c51_n13) (y := c51_n14) (by kernel_rfl) ?_
   refine S.reg (ops := o51_n13) (js := [0]) (by kernel_rfl) (by kernel_rfl) ?_
   refine L.runU [0] [] [(2, .int .i64 0)] (by kernel_rfl) (by kernel_rfl) ?_
   refine L.done ?_
   show S _ _ _ c51_n14 _ _ _ _
   refine S.ret (by kernel_rfl) ?_
   show Leave _ _ _ _ _ _ _ _
   refine Leave.ret1 (x := .tmp 2) (.int .i64 0) (by kernel_rfl) (.ofT (by kernel_rfl)) ?_
   refine ⟨_, rfl, hE106, ?_⟩
   exact int_i64 (by rw [if_pos (dn_yes (by omega) (by simp_all))])
end Go.Proofs.YtjleeadiadpiaaaGreatDoor
namespace Go.Proofs.YtjleeadiadpiaaaGreatDoor
open Go Go.Fx Go.RowKit
noncomputable def c40 : Code := bodyOf Tryz.f40
noncomputable def c40_0 : Code := kid 0 c40
noncomputable def o40_0 : Array Oper := regOps c40_0
noncomputable def c40_1 : Code := kid 1 c40
noncomputable def c40_1_0 : Code := kid 0 c40_1
noncomputable def o40_1_0 : Array Oper := regOps c40_1_0
noncomputable def c40_1_1 : Code := kid 1 c40_1
set_option maxHeartbeats 400000 in
theorem none_nil  (w : World)  : Calls Tryz.prog 40 #[.pointer none] w (RetW [] w fun v _ => v = .bool true) := by
 refine calls_of_S (n := 13) (c := c40) Tryz.func40 (by kernel_rfl) (by kernel_rfl) (Nat.le_of_ble_eq_true (by kernel_rfl)) ?_
 have hE0 : Eff [] w w := Eff.refl _ _
 refine S.seq (x := c40_0) (y := c40_1) (by kernel_rfl) ?_
 refine S.reg (ops := o40_0) (js := [0]) (by kernel_rfl) (by kernel_rfl) ?_
 refine L.runU [0] [] [(2, .bool false)] (by kernel_rfl) (by kernel_rfl) ?_
 refine L.done ?_
 show S _ _ _ c40_1 _ _ _ _
 refine S.seq (x := c40_1_0) (y := c40_1_1) (by kernel_rfl) ?_
 refine S.reg (ops := o40_1_0) (js := [0, 1, 2, 3, 4, 5, 6, 7, 8, 9, 10]) (by kernel_rfl) (by kernel_rfl) ?_
 refine L.runU [0, 1, 2, 3, 4, 5, 6, 7, 8, 9, 10] [] [(3, .pointer none), (4, .bool true), (5, .bool true), (6, undef), (7, undef), (8, undef), (9, undef), (10, undef), (11, undef), (12, .bool true), (2, .bool true)] (by kernel_rfl) (by kernel_rfl) ?_
 refine L.done ?_
 show S _ _ _ c40_1_1 _ _ _ _
 refine S.ret (by kernel_rfl) ?_
 show Leave _ _ _ _ _ _ _ _
 refine Leave.ret1 (x := .tmp 2) (.bool true) (by kernel_rfl) (.ofT (by kernel_rfl)) ?_
 refine ⟨_, rfl, hE0, ?_⟩
 rfl
noncomputable def c40b : Code := bodyOf Tryz.f40
noncomputable def c40b_0 : Code := kid 0 c40b
noncomputable def o40b_0 : Array Oper := regOps c40b_0
noncomputable def c40b_1 : Code := kid 1 c40b
noncomputable def c40b_1_0 : Code := kid 0 c40b_1
noncomputable def o40b_1_0 : Array Oper := regOps c40b_1_0
noncomputable def c40b_1_1 : Code := kid 1 c40b_1
set_option maxHeartbeats 400000 in
theorem none_no (pb b1 : Nat) (y z : Value) (w : World) (hB : Blk w pb [.map (some b1), y, z] 59) : Calls Tryz.prog 40 #[.pointer (some ⟨pb, 0, none⟩)] w (RetW [] w fun v _ => v = .bool false) := by
 refine calls_of_S (n := 13) (c := c40b) Tryz.func40 (by kernel_rfl) (by kernel_rfl) (Nat.le_of_ble_eq_true (by kernel_rfl)) ?_
 have hE0 : Eff [] w w := Eff.refl _ _
 refine S.seq (x := c40b_0) (y := c40b_1) (by kernel_rfl) ?_
 refine S.reg (ops := o40b_0) (js := [0]) (by kernel_rfl) (by kernel_rfl) ?_
 refine L.runU [0] [] [(2, .bool false)] (by kernel_rfl) (by kernel_rfl) ?_
 refine L.done ?_
 show S _ _ _ c40b_1 _ _ _ _
 refine S.seq (x := c40b_1_0) (y := c40b_1_1) (by kernel_rfl) ?_
 refine S.reg (ops := o40b_1_0) (js := [0, 1, 2, 3, 4, 5, 6, 7, 8, 9, 10]) (by kernel_rfl) (by kernel_rfl) ?_
 refine L.runU [0, 1, 2, 3, 4, 5, 6] [7, 8, 9, 10] [(3, .pointer (some ⟨pb, 0, none⟩)), (4, .bool false), (5, .bool false), (6, .pointer (some ⟨pb, 0, none⟩)), (7, .pointer (some ⟨pb, 0, none⟩)), (8, .pointer (some ⟨pb, 0, none⟩)), (9, .pointer (some ⟨pb, 0, none⟩))] (by kernel_rfl) (by kernel_rfl) ?_
 refine L.val (.map (some b1)) (by kernel_rfl : lookAt _ _ _ _ = some ((Op.load 53 (Operand.tmp 9)), some 10)) (by intro c e; cases e) (rx_load 0 (.map (some b1)) (hB.cells) (by kernel_rfl) (by kernel_rfl)) ?_
 refine L.runU [8, 9, 10] [] [(11, .bool false), (12, .bool false), (2, .bool false)] (by kernel_rfl) (by kernel_rfl) ?_
 refine L.done ?_
 show S _ _ _ c40b_1_1 _ _ _ _
 refine S.ret (by kernel_rfl) ?_
 show Leave _ _ _ _ _ _ _ _
 refine Leave.ret1 (x := .tmp 2) (.bool false) (by kernel_rfl) (.ofT (by kernel_rfl)) ?_
 refine ⟨_, rfl, hE0, ?_⟩
 rfl
noncomputable def c40c : Code := bodyOf Tryz.f40
noncomputable def c40c_0 : Code := kid 0 c40c
noncomputable def o40c_0 : Array Oper := regOps c40c_0
noncomputable def c40c_1 : Code := kid 1 c40c
noncomputable def c40c_1_0 : Code := kid 0 c40c_1
noncomputable def o40c_1_0 : Array Oper := regOps c40c_1_0
noncomputable def c40c_1_1 : Code := kid 1 c40c_1
set_option maxHeartbeats 400000 in
theorem none_z (pb : Nat) (y z : Value) (w : World) (hB : Blk w pb [.map none, y, z] 59) : Calls Tryz.prog 40 #[.pointer (some ⟨pb, 0, none⟩)] w (RetW [] w fun v _ => v = .bool true) := by
 refine calls_of_S (n := 13) (c := c40c) Tryz.func40 (by kernel_rfl) (by kernel_rfl) (Nat.le_of_ble_eq_true (by kernel_rfl)) ?_
 have hE0 : Eff [] w w := Eff.refl _ _
 refine S.seq (x := c40c_0) (y := c40c_1) (by kernel_rfl) ?_
 refine S.reg (ops := o40c_0) (js := [0]) (by kernel_rfl) (by kernel_rfl) ?_
 refine L.runU [0] [] [(2, .bool false)] (by kernel_rfl) (by kernel_rfl) ?_
 refine L.done ?_
 show S _ _ _ c40c_1 _ _ _ _
 refine S.seq (x := c40c_1_0) (y := c40c_1_1) (by kernel_rfl) ?_
 refine S.reg (ops := o40c_1_0) (js := [0, 1, 2, 3, 4, 5, 6, 7, 8, 9, 10]) (by kernel_rfl) (by kernel_rfl) ?_
 refine L.runU [0, 1, 2, 3, 4, 5, 6] [7, 8, 9, 10] [(3, .pointer (some ⟨pb, 0, none⟩)), (4, .bool false), (5, .bool false), (6, .pointer (some ⟨pb, 0, none⟩)), (7, .pointer (some ⟨pb, 0, none⟩)), (8, .pointer (some ⟨pb, 0, none⟩)), (9, .pointer (some ⟨pb, 0, none⟩))] (by kernel_rfl) (by kernel_rfl) ?_
 refine L.val (.map none) (by kernel_rfl : lookAt _ _ _ _ = some ((Op.load 53 (Operand.tmp 9)), some 10)) (by intro c e; cases e) (rx_load 0 (.map none) (hB.cells) (by kernel_rfl) (by kernel_rfl)) ?_
 refine L.runU [8, 9, 10] [] [(11, .bool true), (12, .bool true), (2, .bool true)] (by kernel_rfl) (by kernel_rfl) ?_
 refine L.done ?_
 show S _ _ _ c40c_1_1 _ _ _ _
 refine S.ret (by kernel_rfl) ?_
 show Leave _ _ _ _ _ _ _ _
 refine Leave.ret1 (x := .tmp 2) (.bool true) (by kernel_rfl) (.ofT (by kernel_rfl)) ?_
 refine ⟨_, rfl, hE0, ?_⟩
 rfl
noncomputable def c41 : Code := bodyOf Tryz.f41
noncomputable def c41_0 : Code := kid 0 c41
noncomputable def o41_0 : Array Oper := regOps c41_0
noncomputable def c41_1 : Code := kid 1 c41
noncomputable def c41_1_0 : Code := kid 0 c41_1
noncomputable def o41_1_0 : Array Oper := regOps c41_1_0
noncomputable def c41_1_1 : Code := kid 1 c41_1
noncomputable def c41_1_1_0 : Code := kid 0 c41_1_1
noncomputable def o41_1_1_0 : Array Oper := regOps c41_1_1_0
noncomputable def c41_1_1_1 : Code := kid 1 c41_1_1
set_option maxHeartbeats 400000 in
theorem copied_ok (M : List Nat) (cs : List Value) (x : Pg) (w : World) (hM : Mok M w) (h : kPg.R M w cs x) (hb : ∀ j, (x.shadow.getD j []).length ≤ 1048576) : Calls Tryz.prog 41 #[.agg (cs).toArray] w (RetW [] w fun v w' => ∃ cs', v = .agg cs'.toArray ∧ kPg.R M w' cs' x) := by
 refine calls_of_S (n := 8) (c := c41) Tryz.func41 (by kernel_rfl) (by kernel_rfl) (Nat.le_of_ble_eq_true (by kernel_rfl)) ?_
 obtain ⟨_, _, rfl, ⟨rfl, hl101⟩, ⟨_, _, rfl, ⟨rfl, hl102⟩, ⟨v103, v104, v105, v106, v107, v108, v109, v110, rfl, C111⟩⟩⟩ := h
 have hE0 : Eff [] w w := Eff.refl _ _
 refine S.seq (x := c41_0) (y := c41_1) (by kernel_rfl) ?_
 refine S.reg (ops := o41_0) (js := [0, 1]) (by kernel_rfl) (by kernel_rfl) ?_
 refine L.box [sv x.href, sv x.uuid, v103, v104, v105, v106, v107, v108, v109, v110] (by kernel_rfl : lookAt _ _ _ _ = some ((Op.box 40 (Operand.tmp 0)), some 1)) (by kernel_rfl) ?_
 intro b112 w113 hs114 hz115 E116 B117
 have hE118 := hE0.and0 E116
 have := E116.size
 have C119 := Kd.step (Kd.array 8 [] (Kd.slice Kd.str) rfl) C111 (nNew (fresh1 hs114) same) E116 no0
 have hM120 : Mok ([b112] ++ M) w113 := hM.step E116 (nNew (flt1 (b := b112) (by omega)) same)
 refine L.alloc [sv [], sv [], .slice none 0 0, .slice none 0 0, .slice none 0 0, .slice none 0 0, .slice none 0 0, .slice none 0 0, .slice none 0 0, .slice none 0 0] (by kernel_rfl : lookAt _ _ _ _ = some ((Op.alloc 40), some 2)) (by kernel_rfl) ?_
 intro b121 w122 hs123 hz124 E125 B126
 have hE127 := hE118.and0 E125
 have := E125.size
 have C128 := Kd.step (Kd.array 8 [] (Kd.slice Kd.str) rfl) C119 (nNew (fresh1 hs123) (nKeep same)) E125 no0
 have B129 := B117.eff0 E125
 have hM130 : Mok ([b121] ++ ([b112] ++ M)) w122 := hM120.step E125 (nNew (flt1 (b := b121) (by omega)) (nKeep same))
 refine L.done ?_
 show S _ _ _ c41_1 _ _ _ _
 refine S.seq (x := c41_1_0) (y := c41_1_1) (by kernel_rfl) ?_
 refine S.reg (ops := o41_1_0) (js := [0, 1, 2, 3, 4]) (by kernel_rfl) (by kernel_rfl) ?_
 refine L.runU [0] [1, 2, 3, 4] [(3, .pointer (some ⟨b112, 2, none⟩))] (by kernel_rfl) (by kernel_rfl) ?_
 refine L.val (.agg #[v103, v104, v105, v106, v107, v108, v109, v110]) (by kernel_rfl : lookAt _ _ _ _ = some ((Op.load 32 (Operand.tmp 3)), some 4)) (by intro c e; cases e) (rx_load 2 (.agg #[v103, v104, v105, v106, v107, v108, v109, v110]) (B129.cells) (by kernel_rfl) (by kernel_rfl)) ?_
 refine L.call (f := 55) (by kernel_rfl : lookAt _ _ _ _ = some ((Op.call { callee := (Callee.value (Operand.func 55)), args := #[(Operand.tmp 4)], argTypes := #[32] }), some 5)) e55 (by kernel_rfl) (copy_ok ([b121] ++ ([b112] ++ M)) [v103, v104, v105, v106, v107, v108, v109, v110] x.shadow _ hM130 (⟨_, _, _, _, _, _, _, _, rfl, C128⟩) hb) ?_
 rintro _ w134 E135 ⟨cs131, rfl, R132⟩
 obtain ⟨v137, v138, v139, v140, v141, v142, v143, v144, rfl, C145⟩ := R132
 have hE146 := hE127.and0 E135
 have := E135.size
 have C147 := Kd.step (Kd.array 8 [] (Kd.slice Kd.str) rfl) C128 same E135 no0
 have B148 := B129.eff0 E135
 have B149 := B126.eff0 E135
 have hM150 := hM130.eff E135
 refine L.runU [3] [4] [(6, .pointer (some ⟨b112, 2, none⟩))] (by kernel_rfl) (by kernel_rfl) ?_
 refine L.store 2 [v137, v138, v139, v140, v141, v142, v143, v144] [sv x.href, sv x.uuid, v137, v138, v139, v140, v141, v142, v143, v144] (by kernel_rfl : lookAt _ _ _ _ = some ((Op.store 32 (Operand.tmp 6) (Operand.tmp 5)), none)) (by kernel_rfl) B148 (by kernel_rfl) (by kernel_rfl) (by kernel_rfl) (Kd.one (Kd.array 8 [] (Kd.slice Kd.str) rfl) C145) (by kernel_rfl) ?_
 intro w151 E152 hz153 B154
 have hE155 := hE146.and1 E152 (by omega)
 have := E152.size
 have C156 := Kd.step (Kd.array 8 [] (Kd.slice Kd.str) rfl) C147 same E152 (in1 (List.mem_append_right _ (List.mem_append_left _ (List.mem_singleton.2 rfl))))
 have B157 := B149.eff1 E152 (by omega)
 have C158 := Kd.step (Kd.array 8 [] (Kd.slice Kd.str) rfl) C145 same E152 (in1 (List.mem_append_right _ (List.mem_append_left _ (List.mem_singleton.2 rfl))))
 have hM159 := hM150.eff E152
 refine L.done ?_
 show S _ _ _ c41_1_1 _ _ _ _
 refine S.seq (x := c41_1_1_0) (y := c41_1_1_1) (by kernel_rfl) ?_
 refine S.reg (ops := o41_1_1_0) (js := [0, 1]) (by kernel_rfl) (by kernel_rfl) ?_
 refine L.val (.agg #[sv x.href, sv x.uuid, v137, v138, v139, v140, v141, v142, v143, v144]) (by kernel_rfl : lookAt _ _ _ _ = some ((Op.load 40 (Operand.tmp 1)), some 7)) (by intro c e; cases e) (rx_load 0 (.agg #[sv x.href, sv x.uuid, v137, v138, v139, v140, v141, v142, v143, v144]) (B154.cells) (by kernel_rfl) (by kernel_rfl)) ?_
 refine L.store 0 [sv x.href, sv x.uuid, v137, v138, v139, v140, v141, v142, v143, v144] [sv x.href, sv x.uuid, v137, v138, v139, v140, v141, v142, v143, v144] (by kernel_rfl : lookAt _ _ _ _ = some ((Op.store 40 (Operand.tmp 2) (Operand.tmp 7)), none)) (by kernel_rfl) B157 (by kernel_rfl) (by kernel_rfl) (by kernel_rfl) (ones_app (a := [sv x.href, sv x.uuid]) (b := [v137, v138, v139, v140, v141, v142, v143, v144]) (one_of_all (by kernel_rfl)) (Kd.one (Kd.array 8 [] (Kd.slice Kd.str) rfl) C158)) (by kernel_rfl) ?_
 intro w160 E161 hz162 B163
 have hE164 := hE155.and1 E161 (by omega)
 have := E161.size
 have C165 := Kd.step (Kd.array 8 [] (Kd.slice Kd.str) rfl) C156 same E161 (in1 (List.mem_append_left _ (List.mem_singleton.2 rfl)))
 have C166 := Kd.step (Kd.array 8 [] (Kd.slice Kd.str) rfl) C158 same E161 (in1 (List.mem_append_left _ (List.mem_singleton.2 rfl)))
 have B167 := B154.eff1 E161 (by omega)
 have hM168 := hM159.eff E161
 refine L.done ?_
 show S _ _ _ c41_1_1_1 _ _ _ _
 refine S.ret (by kernel_rfl) ?_
 show Leave _ _ _ _ _ _ _ _
 refine Leave.ret1 (x := .cell 2 40) (.agg #[sv x.href, sv x.uuid, v137, v138, v139, v140, v141, v142, v143, v144]) (by kernel_rfl) (.ofC 0 (by kernel_rfl) B163.cells (by kernel_rfl)) ?_
 have hsub169 : ∀ b, b ∈ M → b ∈ [b121] ++ ([b112] ++ M) := (sDrop (sDrop sSame))
 have hM170 : Mok (M) w160 := hM168.sub hsub169
 have F171 := Kd.sub (Kd.array 8 [] (Kd.slice Kd.str) rfl) C165 hsub169
 have F172 := Kd.sub (Kd.array 8 [] (Kd.slice Kd.str) rfl) C166 hsub169
 exact ⟨_, rfl, hE164, [sv x.href, sv x.uuid, v137, v138, v139, v140, v141, v142, v143, v144], rfl, ⟨[sv x.href], [sv x.uuid, v137, v138, v139, v140, v141, v142, v143, v144], rfl, ⟨rfl, by omega⟩, ⟨[sv x.uuid], [v137, v138, v139, v140, v141, v142, v143, v144], rfl, ⟨rfl, by omega⟩, ⟨_, _, _, _, _, _, _, _, rfl, F172⟩⟩⟩⟩
noncomputable def c43 : Code := bodyOf Tryz.f43
noncomputable def c43_0 : Code := kid 0 c43
noncomputable def o43_0 : Array Oper := regOps c43_0
noncomputable def c43_1 : Code := kid 1 c43
noncomputable def o43_1 : Array Oper := regOps c43_1
set_option maxHeartbeats 400000 in
theorem put_ok (M : List Nat) (b1 b2 : Nat) (l1 : List (Str × Pg)) (l2 : List (Str × Str)) (cs : List Value) (x : Pg) (w : World) (hM : Mok M w) (Q1 : MapIs Key.str kPg true M w b1 l1) (Q2 : MapIs Key.str Kd.str false M w b2 l2) (hb1 : b1 ∈ M) (hb2 : b2 ∈ M) (hne : b1 ≠ b2) (h : kPg.R M w cs x) : Calls Tryz.prog 43 #[.agg #[.map (some b1), .map (some b2)], .agg (cs).toArray] w (RetW [b1, b2] w fun v w' => v = .tuple #[] ∧ MapIs Key.str kPg true M w' b1 (mput l1 x.href x) ∧ MapIs Key.str Kd.str false M w' b2 (mput l2 x.uuid x.href)) := by
 refine calls_of_S (n := 15) (c := c43) Tryz.func43 (by kernel_rfl) (by kernel_rfl) (Nat.le_of_ble_eq_true (by kernel_rfl)) ?_
 have := Q1.lt
 have := Q2.lt
 obtain ⟨_, _, rfl, ⟨rfl, hl101⟩, ⟨_, _, rfl, ⟨rfl, hl102⟩, ⟨v103, v104, v105, v106, v107, v108, v109, v110, rfl, C111⟩⟩⟩ := h
 have hE0 : Eff [b1, b2] w w := Eff.refl _ _
 refine S.seq (x := c43_0) (y := c43_1) (by kernel_rfl) ?_
 refine S.reg (ops := o43_0) (js := [0, 1]) (by kernel_rfl) (by kernel_rfl) ?_
 refine L.box [.map (some b1), .map (some b2)] (by kernel_rfl : lookAt _ _ _ _ = some ((Op.box 56 (Operand.tmp 0)), some 2)) (by kernel_rfl) ?_
 intro b112 w113 hs114 hz115 E116 B117
 have hE118 := hE0.and0 E116
 have := E116.size
 have Q119 := Q1.step (nNew (fresh1 hs114) same) E116 (by simp) no0
 have Q120 := Q2.step (nNew (fresh1 hs114) same) E116 (by simp) no0
 have C121 := Kd.step (Kd.array 8 [] (Kd.slice Kd.str) rfl) C111 (nNew (fresh1 hs114) same) E116 no0
 have hM122 : Mok ([b112] ++ M) w113 := hM.step E116 (nNew (flt1 (b := b112) (by omega)) same)
 refine L.box [sv x.href, sv x.uuid, v103, v104, v105, v106, v107, v108, v109, v110] (by kernel_rfl : lookAt _ _ _ _ = some ((Op.box 40 (Operand.tmp 1)), some 3)) (by kernel_rfl) ?_
 intro b123 w124 hs125 hz126 E127 B128
 have hE129 := hE118.and0 E127
 have := E127.size
 have Q130 := Q119.step (nNew (fresh1 hs125) (nKeep same)) E127 (by simp) no0
 have Q131 := Q120.step (nNew (fresh1 hs125) (nKeep same)) E127 (by simp) no0
 have C132 := Kd.step (Kd.array 8 [] (Kd.slice Kd.str) rfl) C121 (nNew (fresh1 hs125) (nKeep same)) E127 no0
 have B133 := B117.eff0 E127
 have hM134 : Mok ([b123] ++ ([b112] ++ M)) w124 := hM122.step E127 (nNew (flt1 (b := b123) (by omega)) (nKeep same))
 refine L.done ?_
 show S _ _ _ c43_1 _ _ _ _
 refine S.draw (ops := o43_1) (Eff ([b1] ++ [b2])) 13 #[false, false, false, false, false, false, false, false, false, false, false, false, false] (by kernel_rfl) (by kernel_rfl) (by kernel_rfl) (by kernel_rfl) ?_
 intro w135 E136 hw137
 have hE139 := hE129.and0 E136
 have := E136.size
 have Q140 := Q130.step same E136 (by simp) no0
 have Q141 := Q131.step same E136 (by simp) no0
 have C142 := Kd.step (Kd.array 8 [] (Kd.slice Kd.str) rfl) C132 same E136 no0
 have B143 := B133.eff0 E136
 have B144 := B128.eff0 E136
 have hM145 := hM134.eff E136
 have hS138 := Eff.refl ([b1] ++ [b2]) w135
 refine D.take 0 (.pointer (some ⟨b112, 0, none⟩)) (some 4) #[true, false, false, false, false, false, false, false, false, false, false, false, false] (by kernel_rfl) (by kernel_rfl) (by kernel_rfl) (fun _ _ _ _ h => LeaveP.put h (by kernel_rfl)) (.pure (n := 15) (by kernel_rfl)) hS138 ?_
 refine D.take 1 (.map (some b1)) (some 5) #[true, true, false, false, false, false, false, false, false, false, false, false, false] (by kernel_rfl) (by kernel_rfl) (by kernel_rfl) (fun _ _ _ _ h => LeaveP.put h (by kernel_rfl)) (.val (n := 15) (by kernel_rfl : lookAt _ _ _ _ = some ((Op.load 53 (Operand.tmp 4)), some 5)) (by intro c e; cases e) (fun _ h => rx_load 0 (.map (some b1)) ((B143.eff h (nin (notin1 (by omega)) (notin1 (by omega)))).cells) (by kernel_rfl) (by kernel_rfl))) hS138 ?_
 refine D.take 2 (.pointer (some ⟨b123, 0, none⟩)) (some 6) #[true, true, true, false, false, false, false, false, false, false, false, false, false] (by kernel_rfl) (by kernel_rfl) (by kernel_rfl) (fun _ _ _ _ h => LeaveP.put h (by kernel_rfl)) (.pure (n := 15) (by kernel_rfl)) hS138 ?_
 refine D.take 3 (sv x.href) (some 7) #[true, true, true, true, false, false, false, false, false, false, false, false, false] (by kernel_rfl) (by kernel_rfl) (by kernel_rfl) (fun _ _ _ _ h => LeaveP.put h (by kernel_rfl)) (.val (n := 15) (by kernel_rfl : lookAt _ _ _ _ = some ((Op.load 9 (Operand.tmp 6)), some 7)) (by intro c e; cases e) (fun _ h => rx_load 0 (sv x.href) ((B144.eff h (nin (notin1 (by omega)) (notin1 (by omega)))).cells) (by kernel_rfl) (by kernel_rfl))) hS138 ?_
 refine D.take 4 (.pointer (some ⟨b112, 1, none⟩)) (some 8) #[true, true, true, true, true, false, false, false, false, false, false, false, false] (by kernel_rfl) (by kernel_rfl) (by kernel_rfl) (fun _ _ _ _ h => LeaveP.put h (by kernel_rfl)) (.pure (n := 15) (by kernel_rfl)) hS138 ?_
 refine D.take 5 (.map (some b2)) (some 9) #[true, true, true, true, true, true, false, false, false, false, false, false, false] (by kernel_rfl) (by kernel_rfl) (by kernel_rfl) (fun _ _ _ _ h => LeaveP.put h (by kernel_rfl)) (.val (n := 15) (by kernel_rfl : lookAt _ _ _ _ = some ((Op.load 54 (Operand.tmp 8)), some 9)) (by intro c e; cases e) (fun _ h => rx_load 1 (.map (some b2)) ((B143.eff h (nin (notin1 (by omega)) (notin1 (by omega)))).cells) (by kernel_rfl) (by kernel_rfl))) hS138 ?_
 refine D.take 6 (.pointer (some ⟨b123, 1, none⟩)) (some 10) #[true, true, true, true, true, true, true, false, false, false, false, false, false] (by kernel_rfl) (by kernel_rfl) (by kernel_rfl) (fun _ _ _ _ h => LeaveP.put h (by kernel_rfl)) (.pure (n := 15) (by kernel_rfl)) hS138 ?_
 refine D.take 7 (sv x.uuid) (some 11) #[true, true, true, true, true, true, true, true, false, false, false, false, false] (by kernel_rfl) (by kernel_rfl) (by kernel_rfl) (fun _ _ _ _ h => LeaveP.put h (by kernel_rfl)) (.val (n := 15) (by kernel_rfl : lookAt _ _ _ _ = some ((Op.load 9 (Operand.tmp 10)), some 11)) (by intro c e; cases e) (fun _ h => rx_load 1 (sv x.uuid) ((B144.eff h (nin (notin1 (by omega)) (notin1 (by omega)))).cells) (by kernel_rfl) (by kernel_rfl))) hS138 ?_
 refine D.take 8 (.agg #[sv x.href, sv x.uuid, v103, v104, v105, v106, v107, v108, v109, v110]) (some 12) #[true, true, true, true, true, true, true, true, true, false, false, false, false] (by kernel_rfl) (by kernel_rfl) (by kernel_rfl) (fun _ _ _ _ h => LeaveP.put h (by kernel_rfl)) (.val (n := 15) (by kernel_rfl : lookAt _ _ _ _ = some ((Op.load 40 (Operand.tmp 3)), some 12)) (by intro c e; cases e) (fun _ h => rx_load 0 (.agg #[sv x.href, sv x.uuid, v103, v104, v105, v106, v107, v108, v109, v110]) ((B144.eff h (nin (notin1 (by omega)) (notin1 (by omega)))).cells) (by kernel_rfl) (by kernel_rfl))) hS138 ?_
 refine D.take 9 (.pointer (some ⟨b123, 0, none⟩)) (some 13) #[true, true, true, true, true, true, true, true, true, true, false, false, false] (by kernel_rfl) (by kernel_rfl) (by kernel_rfl) (fun _ _ _ _ h => LeaveP.put h (by kernel_rfl)) (.pure (n := 15) (by kernel_rfl)) hS138 ?_
 refine D.take 10 (sv x.href) (some 14) #[true, true, true, true, true, true, true, true, true, true, true, false, false] (by kernel_rfl) (by kernel_rfl) (by kernel_rfl) (fun _ _ _ _ h => LeaveP.put h (by kernel_rfl)) (.val (n := 15) (by kernel_rfl : lookAt _ _ _ _ = some ((Op.load 9 (Operand.tmp 13)), some 14)) (by intro c e; cases e) (fun _ h => rx_load 0 (sv x.href) ((B144.eff h (nin (notin1 (by omega)) (notin1 (by omega)))).cells) (by kernel_rfl) (by kernel_rfl))) hS138 ?_
 refine D.all [11] (by kernel_rfl) (by kernel_rfl) ⟨?_, trivial⟩
 refine L.mapUpdate (key := Key.str) (K := kPg) (agg := true) (M := [b123] ++ ([b112] ++ M)) (b := b1) (kt := 9) (et := 40) (kx := x.href) (y := x) (cs := [sv x.href, sv x.uuid, v103, v104, v105, v106, v107, v108, v109, v110]) (by kernel_rfl : lookAt _ _ _ _ = some ((Op.mapUpdate 53 (Operand.tmp 5) (Operand.tmp 7) (Operand.tmp 12)), none)) (by kernel_rfl) (by kernel_rfl) (by kernel_rfl) (by kernel_rfl) (by kernel_rfl) Q140 (by simp [*]) ⟨[sv x.href], [sv x.uuid, v103, v104, v105, v106, v107, v108, v109, v110], rfl, ⟨rfl, by omega⟩, ⟨[sv x.uuid], [v103, v104, v105, v106, v107, v108, v109, v110], rfl, ⟨rfl, by omega⟩, ⟨_, _, _, _, _, _, _, _, rfl, C142⟩⟩⟩ ?_
 intro w146 E147 hz148 Q149
 have hE150 := hE139.andIn E147 (in1 (by simp))
 have := E147.size
 have hS151 := hS138.andIn E147 (in1 (by simp))
 have Q152 := Q141.step same E147 (notin1 (by omega)) (in1 (by simp [*]))
 have C153 := Kd.step (Kd.array 8 [] (Kd.slice Kd.str) rfl) C142 same E147 (in1 (by simp [*]))
 have B154 := B143.eff1 E147 (by omega)
 have B155 := B144.eff1 E147 (by omega)
 have hM156 := hM145.eff E147
 refine ⟨hS151, ?_⟩
 refine D.all [12] (by kernel_rfl) (by kernel_rfl) ⟨?_, trivial⟩
 refine L.mapUpdate (key := Key.str) (K := Kd.str) (agg := false) (M := [b123] ++ ([b112] ++ M)) (b := b2) (kt := 9) (et := 9) (kx := x.uuid) (y := x.href) (cs := [sv x.href]) (by kernel_rfl : lookAt _ _ _ _ = some ((Op.mapUpdate 54 (Operand.tmp 9) (Operand.tmp 11) (Operand.tmp 14)), none)) (by kernel_rfl) (by kernel_rfl) (by kernel_rfl) (by kernel_rfl) (by kernel_rfl) Q152 (by simp [*]) ⟨rfl, by omega⟩ ?_
 intro w157 E158 hz159 Q160
 have hE161 := hE150.andIn E158 (in1 (by simp))
 have := E158.size
 have hS162 := hS151.andIn E158 (in1 (by simp))
 have C163 := Kd.step (Kd.array 8 [] (Kd.slice Kd.str) rfl) C153 same E158 (in1 (by simp [*]))
 have B164 := B154.eff1 E158 (by omega)
 have B165 := B155.eff1 E158 (by omega)
 have Q166 := Q149.step same E158 (notin1 (by omega)) (in1 (by simp [*]))
 have hM167 := hM156.eff E158
 refine ⟨hS162, ?_⟩
 refine D.done _ (by kernel_rfl) ?_
 show Leave _ _ _ _ _ _ _ _
 refine Leave.ret0 (by kernel_rfl) ?_
 have hsub168 : ∀ b, b ∈ M → b ∈ [b123] ++ ([b112] ++ M) := (sDrop (sDrop sSame))
 have hM169 : Mok (M) w157 := hM167.sub hsub168
 have F170 := Kd.sub (Kd.array 8 [] (Kd.slice Kd.str) rfl) C163 hsub168
 have F171 := Q166.sub hsub168
 have F172 := Q160.sub hsub168
 exact ⟨_, rfl, hE161, rfl, F171, F172⟩
noncomputable def c11 : Code := bodyOf Tryz.f11
noncomputable def c11_0 : Code := kid 0 c11
noncomputable def o11_0 : Array Oper := regOps c11_0
noncomputable def c11_1 : Code := kid 1 c11
noncomputable def c11_1_0 : Code := kid 0 c11_1
noncomputable def o11_1_0 : Array Oper := regOps c11_1_0
noncomputable def c11_1_1 : Code := kid 1 c11_1
set_option maxHeartbeats 400000 in
theorem new_ok  (w : World)  : Calls Tryz.prog 11 #[] w (RetW [] w fun v w' => ∃ pb b1 b2, v = .pointer (some ⟨pb, 0, none⟩) ∧ Blk w' pb [.map (some b1), .map (some b2), .pointer none] 59 ∧ MapIs Key.str kPg true [] w' b1 [] ∧ MapIs Key.str Kd.str false [] w' b2 [] ∧ w.heap.size ≤ b1 ∧ w.heap.size ≤ b2 ∧ w.heap.size ≤ pb ∧ b1 ≠ b2 ∧ pb ≠ b1 ∧ pb ≠ b2) := by
 refine calls_of_S (n := 6) (c := c11) Tryz.func11 (by kernel_rfl) (by kernel_rfl) (Nat.le_of_ble_eq_true (by kernel_rfl)) ?_
 have hE0 : Eff [] w w := Eff.refl _ _
 refine S.seq (x := c11_0) (y := c11_1) (by kernel_rfl) ?_
 refine S.reg (ops := o11_0) (js := [0]) (by kernel_rfl) (by kernel_rfl) ?_
 refine L.runU [0] [] [(0, .pointer none)] (by kernel_rfl) (by kernel_rfl) ?_
 refine L.done ?_
 show S _ _ _ c11_1 _ _ _ _
 refine S.seq (x := c11_1_0) (y := c11_1_1) (by kernel_rfl) ?_
 refine S.reg (ops := o11_1_0) (js := [0, 1, 2, 3, 4, 5]) (by kernel_rfl) (by kernel_rfl) ?_
 refine L.makeMap Key.str kPg true ([]) (by kernel_rfl : lookAt _ _ _ _ = some ((Op.makeMap 53 Option.none), some 1)) ?_
 intro b101 w102 hs103 hz104 E105 Q106
 have hE108 := hE0.and0 E105
 have := E105.size
 have hM109 : Mok ([b101] ++ []) w102 := (Mok.nil _).step E105 (nNew (flt1 (b := b101) (by omega)) same)
 have Q107 : MapIs Key.str kPg true ([b101] ++ []) w102 b101 [] := Q106.empty
 refine L.makeMap Key.str Kd.str false ([b101] ++ []) (by kernel_rfl : lookAt _ _ _ _ = some ((Op.makeMap 54 Option.none), some 2)) ?_
 intro b110 w111 hs112 hz113 E114 Q115
 have hE117 := hE108.and0 E114
 have := E114.size
 have Q118 := Q107.step (nNew (fresh1 hs112) (nKeep same)) E114 (by simp) no0
 have hM119 : Mok ([b110] ++ ([b101] ++ [])) w111 := hM109.step E114 (nNew (flt1 (b := b110) (by omega)) (nKeep same))
 have Q116 : MapIs Key.str Kd.str false ([b110] ++ ([b101] ++ [])) w111 b110 [] := Q115.empty
 refine L.runU [2, 3] [4, 5] [(3, .agg #[.map (some b101), .map (some b110)]), (4, .agg #[.map (some b101), .map (some b110), .pointer none])] (by kernel_rfl) (by kernel_rfl) ?_
 refine L.box [.map (some b101), .map (some b110), .pointer none] (by kernel_rfl : lookAt _ _ _ _ = some ((Op.box 59 (Operand.tmp 4)), some 5)) (by kernel_rfl) ?_
 intro b120 w121 hs122 hz123 E124 B125
 have hE126 := hE117.and0 E124
 have := E124.size
 have Q127 := Q118.step (nNew (fresh1 hs122) (nKeep (nKeep same))) E124 (by simp) no0
 have Q128 := Q116.step (nNew (fresh1 hs122) (nKeep (nKeep same))) E124 (by simp) no0
 have hM129 : Mok ([b120] ++ ([b110] ++ ([b101] ++ []))) w121 := hM119.step E124 (nNew (flt1 (b := b120) (by omega)) (nKeep (nKeep same)))
 refine L.runU [5] [] [(0, .pointer (some ⟨b120, 0, none⟩))] (by kernel_rfl) (by kernel_rfl) ?_
 refine L.done ?_
 show S _ _ _ c11_1_1 _ _ _ _
 refine S.ret (by kernel_rfl) ?_
 show Leave _ _ _ _ _ _ _ _
 refine Leave.ret1 (x := .tmp 0) (.pointer (some ⟨b120, 0, none⟩)) (by kernel_rfl) (.ofT (by kernel_rfl)) ?_
 exact ⟨_, rfl, hE126, _, _, _, rfl, B125, Q127.empty, Q128.empty, by omega, by omega, by omega, by omega, by omega, by omega⟩
end Go.Proofs.YtjleeadiadpiaaaGreatDoor
namespace Go.Proofs.YtjleeadiadpiaaaGreatDoor
open Go Go.Fx Go.RowKit
def addF (l1 : List (Str × Pg)) (l2 : List (Str × Str)) (x : Pg) : Int :=
 if hrefF x.href = true ∧ uuidF x.uuid = true ∧ rightF x.shadow = true then (if ((mget l1 x.href).isSome || (mget l2 x.uuid).isSome) = true then 300 else if 64 ≤ l1.length then 3 else 0) else 2
theorem right_small {c : List (List Str)} (hc : c.length = 8) (h : rightF c = true) : ∀ j, (c.getD j []).length ≤ 1048576 := by
 intro j
 by_cases hj : j < 8
 ·have := allI_get h hj
  simp only [valuesF, Bool.and_eq_true, mostF] at this
  have h1 : (c.getD j []).length ≤ (if 6 ≤ j then 8 else 1) := of_decide_eq_true this.1.1
  by_cases h6 : 6 ≤ j
  ·rw [if_pos h6] at h1; omega
  ·rw [if_neg h6] at h1; omega
 ·rw [List.getD_eq_getElem?_getD, List.getElem?_eq_none (by omega)]; simp
noncomputable def c54 : Code := bodyOf Tryz.f54
noncomputable def c54_0 : Code := kid 0 c54
noncomputable def o54_0 : Array Oper := regOps c54_0
noncomputable def c54_1 : Code := kid 1 c54
noncomputable def c54_1_0 : Code := kid 0 c54_1
noncomputable def o54_1_0 : Array Oper := regOps c54_1_0
noncomputable def c54_1_1 : Code := kid 1 c54_1
noncomputable def c54_1_1_0 : Code := kid 0 c54_1_1
noncomputable def o54_1_1_0 : Array Oper := regOps c54_1_1_0
noncomputable def c54_1_1_1 : Code := kid 1 c54_1_1
noncomputable def c54_n7 : Code := kid 0 c54_1_1_1
noncomputable def o54_n7 : Array Oper := regOps c54_n7
noncomputable def c54_n8 : Code := kid 1 c54_1_1_1
set_option maxHeartbeats 400000 in
theorem paired_ok (M : List Nat) (pb b1 b2 : Nat) (l1 : List (Str × Pg)) (l2 : List (Str × Str)) (z : Value) (c1 c2 : Nat) (cs : List Value) (x : Pg) (w : World) (hB : Blk w pb [.map (some b1), .map (some b2), z] 59) (hp1 : pb ≠ b1) (hp2 : pb ≠ b2) (hM : Mok M w) (Q1 : MapIs Key.str kPg true M w b1 l1) (Q2 : MapIs Key.str Kd.str false M w b2 l2) (hb1 : b1 ∈ M) (hb2 : b2 ∈ M) (hne : b1 ≠ b2) (hC1 : Blk w c1 [.pointer (some ⟨pb, 0, none⟩)] 25) (h : kPg.R M w cs x) (hC2 : Blk w c2 cs 40) : Calls Tryz.prog 54 #[.pointer (some ⟨c1, 0, none⟩), .pointer (some ⟨c2, 0, none⟩)] w (RetW [] w fun v _ => v = .bool ((mget l1 x.href).isSome || (mget l2 x.uuid).isSome)) := by
 refine calls_of_S (n := 33) (c := c54) Tryz.func54 (by kernel_rfl) (by kernel_rfl) (Nat.le_of_ble_eq_true (by kernel_rfl)) ?_
 have := Q1.lt
 have := Q2.lt
 have := hB.lt
 obtain ⟨_, _, rfl, ⟨rfl, hl101⟩, ⟨_, _, rfl, ⟨rfl, hl102⟩, ⟨v103, v104, v105, v106, v107, v108, v109, v110, rfl, C111⟩⟩⟩ := h
 have := hC1.lt
 have := hC2.lt
 have hE0 : Eff [] w w := Eff.refl _ _
 refine S.seq (x := c54_0) (y := c54_1) (by kernel_rfl) ?_
 refine S.reg (ops := o54_0) (js := [0]) (by kernel_rfl) (by kernel_rfl) ?_
 refine L.runU [0] [] [(2, .bool false)] (by kernel_rfl) (by kernel_rfl) ?_
 refine L.done ?_
 show S _ _ _ c54_1 _ _ _ _
 refine S.seq (x := c54_1_0) (y := c54_1_1) (by kernel_rfl) ?_
 refine S.draw (ops := o54_1_0) (Eff ([])) 14 #[false, false, false, false, false, false, false, false, false, false, false, false, false, false] (by kernel_rfl) (by kernel_rfl) (by kernel_rfl) (by kernel_rfl) ?_
 intro w112 E113 hw114
 have hE116 := hE0.and0 E113
 have := E113.size
 have Q117 := Q1.step same E113 (by simp) no0
 have Q118 := Q2.step same E113 (by simp) no0
 have B119 := hB.eff0 E113
 have B120 := hC1.eff0 E113
 have C121 := Kd.step (Kd.array 8 [] (Kd.slice Kd.str) rfl) C111 same E113 no0
 have B122 := hC2.eff0 E113
 have hM123 := hM.eff E113
 have hS115 := Eff.refl ([]) w112
 refine D.take 0 (.pointer (some ⟨pb, 0, none⟩)) (some 8) #[true, false, false, false, false, false, false, false, false, false, false, false, false, false] (by kernel_rfl) (by kernel_rfl) (by kernel_rfl) (fun _ _ _ _ h => LeaveP.put h (by kernel_rfl)) (.val (n := 33) (by kernel_rfl : lookAt _ _ _ _ = some ((Op.load 25 (Operand.tmp 0)), some 8)) (by intro c e; cases e) (fun _ h => rx_load 0 (.pointer (some ⟨pb, 0, none⟩)) ((B120.eff0 h).cells) (by kernel_rfl) (by kernel_rfl))) hS115 ?_
 refine D.take 1 (.pointer (some ⟨pb, 0, none⟩)) (some 9) #[true, true, false, false, false, false, false, false, false, false, false, false, false, false] (by kernel_rfl) (by kernel_rfl) (by kernel_rfl) (fun _ _ _ _ h => LeaveP.put h (by kernel_rfl)) (.pure (n := 33) (by kernel_rfl)) hS115 ?_
 refine D.take 2 (.pointer (some ⟨pb, 0, none⟩)) (some 10) #[true, true, true, false, false, false, false, false, false, false, false, false, false, false] (by kernel_rfl) (by kernel_rfl) (by kernel_rfl) (fun _ _ _ _ h => LeaveP.put h (by kernel_rfl)) (.pure (n := 33) (by kernel_rfl)) hS115 ?_
 refine D.take 3 (.pointer (some ⟨pb, 0, none⟩)) (some 11) #[true, true, true, true, false, false, false, false, false, false, false, false, false, false] (by kernel_rfl) (by kernel_rfl) (by kernel_rfl) (fun _ _ _ _ h => LeaveP.put h (by kernel_rfl)) (.pure (n := 33) (by kernel_rfl)) hS115 ?_
 refine D.take 4 (.map (some b1)) (some 12) #[true, true, true, true, true, false, false, false, false, false, false, false, false, false] (by kernel_rfl) (by kernel_rfl) (by kernel_rfl) (fun _ _ _ _ h => LeaveP.put h (by kernel_rfl)) (.val (n := 33) (by kernel_rfl : lookAt _ _ _ _ = some ((Op.load 53 (Operand.tmp 11)), some 12)) (by intro c e; cases e) (fun _ h => rx_load 0 (.map (some b1)) ((B119.eff0 h).cells) (by kernel_rfl) (by kernel_rfl))) hS115 ?_
 refine D.take 5 (.pointer (some ⟨c2, 0, none⟩)) (some 13) #[true, true, true, true, true, true, false, false, false, false, false, false, false, false] (by kernel_rfl) (by kernel_rfl) (by kernel_rfl) (fun _ _ _ _ h => LeaveP.put h (by kernel_rfl)) (.pure (n := 33) (by kernel_rfl)) hS115 ?_
 refine D.take 6 (sv x.href) (some 14) #[true, true, true, true, true, true, true, false, false, false, false, false, false, false] (by kernel_rfl) (by kernel_rfl) (by kernel_rfl) (fun _ _ _ _ h => LeaveP.put h (by kernel_rfl)) (.val (n := 33) (by kernel_rfl : lookAt _ _ _ _ = some ((Op.load 9 (Operand.tmp 13)), some 14)) (by intro c e; cases e) (fun _ h => rx_load 0 (sv x.href) ((B122.eff0 h).cells) (by kernel_rfl) (by kernel_rfl))) hS115 ?_
 rcases hg124 : mget l1 x.href with _ | y125
 ·have look126 := look_none (P := Tryz.prog) (t := 53) (kt := 9) (et := 40) (zv := .agg #[sv [], sv [], .slice none 0 0, .slice none 0 0, .slice none 0 0, .slice none 0 0, .slice none 0 0, .slice none 0 0, .slice none 0 0, .slice none 0 0]) hg124 Q117 (by kernel_rfl) (by kernel_rfl) (fun _ => by kernel_rfl)
  have := Q117.lt
  refine D.take 7 (.tuple #[.agg #[sv [], sv [], .slice none 0 0, .slice none 0 0, .slice none 0 0, .slice none 0 0, .slice none 0 0, .slice none 0 0, .slice none 0 0, .slice none 0 0], .bool false]) (some 15) #[true, true, true, true, true, true, true, true, false, false, false, false, false, false] (by kernel_rfl) (by kernel_rfl) (by kernel_rfl) (fun _ _ _ _ h => LeaveP.put h (by kernel_rfl)) (.val (n := 33) (by kernel_rfl : lookAt _ _ _ _ = some ((Op.lookup 53 (Operand.tmp 12) (Operand.tmp 14) Bool.true), some 15)) (by intro c e; cases e) (fun _ h => look126 _ _ _ _ true _ (by kernel_rfl) (by kernel_rfl) (h.same _ Q117.lt (by simp)))) hS115 ?_
  refine D.take 8 (.tuple #[.agg #[sv [], sv [], .slice none 0 0, .slice none 0 0, .slice none 0 0, .slice none 0 0, .slice none 0 0, .slice none 0 0, .slice none 0 0, .slice none 0 0], .bool false]) (some 7) #[true, true, true, true, true, true, true, true, true, false, false, false, false, false] (by kernel_rfl) (by kernel_rfl) (by kernel_rfl) (fun _ _ _ _ h => LeaveP.put h (by kernel_rfl)) (.pure (n := 33) (by kernel_rfl)) hS115 ?_
  refine D.take 9 (.agg #[sv [], sv [], .slice none 0 0, .slice none 0 0, .slice none 0 0, .slice none 0 0, .slice none 0 0, .slice none 0 0, .slice none 0 0, .slice none 0 0]) (some 16) #[true, true, true, true, true, true, true, true, true, true, false, false, false, false] (by kernel_rfl) (by kernel_rfl) (by kernel_rfl) (fun _ _ _ _ h => LeaveP.put h (by kernel_rfl)) (.pure (n := 33) (by kernel_rfl)) hS115 ?_
  refine D.take 10 (.bool false) (some 17) #[true, true, true, true, true, true, true, true, true, true, true, false, false, false] (by kernel_rfl) (by kernel_rfl) (by kernel_rfl) (fun _ _ _ _ h => LeaveP.put h (by kernel_rfl)) (.pure (n := 33) (by kernel_rfl)) hS115 ?_
  refine D.all [11] (by kernel_rfl) (by kernel_rfl) ⟨?_, trivial⟩
  refine L.alloc [sv [], sv [], .slice none 0 0, .slice none 0 0, .slice none 0 0, .slice none 0 0, .slice none 0 0, .slice none 0 0, .slice none 0 0, .slice none 0 0] (by kernel_rfl : lookAt _ _ _ _ = some ((Op.alloc 40), some 3)) (by kernel_rfl) ?_
  intro b127 w128 hs129 hz130 E131 B132
  have hE133 := hE116.and0 E131
  have := E131.size
  have hS134 := hS115.and0 E131
  have Q135 := Q117.step (nNew (fresh1 hs129) same) E131 (by simp) no0
  have Q136 := Q118.step (nNew (fresh1 hs129) same) E131 (by simp) no0
  have B137 := B119.eff0 E131
  have B138 := B120.eff0 E131
  have C139 := Kd.step (Kd.array 8 [] (Kd.slice Kd.str) rfl) C121 (nNew (fresh1 hs129) same) E131 no0
  have B140 := B122.eff0 E131
  have hM141 : Mok ([b127] ++ M) w128 := hM123.step E131 (nNew (flt1 (b := b127) (by omega)) same)
  refine ⟨hS134, ?_⟩
  refine D.all [12] (by kernel_rfl) (by kernel_rfl) ⟨?_, trivial⟩
  refine L.store 0 [sv [], sv [], .slice none 0 0, .slice none 0 0, .slice none 0 0, .slice none 0 0, .slice none 0 0, .slice none 0 0, .slice none 0 0, .slice none 0 0] [sv [], sv [], .slice none 0 0, .slice none 0 0, .slice none 0 0, .slice none 0 0, .slice none 0 0, .slice none 0 0, .slice none 0 0, .slice none 0 0] (by kernel_rfl : lookAt _ _ _ _ = some ((Op.store 40 (Operand.tmp 3) (Operand.tmp 16)), none)) (by kernel_rfl) B132 (by kernel_rfl) (by kernel_rfl) (by kernel_rfl) (one_of_all (by kernel_rfl)) (by kernel_rfl) ?_
  intro w142 E143 hz144 B145
  have hE146 := hE133.and1 E143 (by omega)
  have := E143.size
  have hS147 := hS134.and1 E143 (by omega)
  have Q148 := Q135.step same E143 (notin1 (by omega)) (in1 (List.mem_append_left _ (List.mem_singleton.2 rfl)))
  have Q149 := Q136.step same E143 (notin1 (by omega)) (in1 (List.mem_append_left _ (List.mem_singleton.2 rfl)))
  have B150 := B137.eff1 E143 (by omega)
  have B151 := B138.eff1 E143 (by omega)
  have C152 := Kd.step (Kd.array 8 [] (Kd.slice Kd.str) rfl) C139 same E143 (in1 (List.mem_append_left _ (List.mem_singleton.2 rfl)))
  have B153 := B140.eff1 E143 (by omega)
  have hM154 := hM141.eff E143
  refine ⟨hS147, ?_⟩
  refine D.take 13 (.bool false) (some 4) #[true, true, true, true, true, true, true, true, true, true, true, true, true, true] (by kernel_rfl) (by kernel_rfl) (by kernel_rfl) (fun _ _ _ _ h => LeaveP.put h (by kernel_rfl)) (.pure (n := 33) (by kernel_rfl)) hS147 ?_
  refine D.done _ (by kernel_rfl) ?_
  show S _ _ _ c54_1_1 _ _ _ _
  refine S.seq (x := c54_1_1_0) (y := c54_1_1_1) (by kernel_rfl) ?_
  refine S.draw (ops := o54_1_1_0) (Eff ([])) 13 #[false, false, false, false, false, false, false, false, false, false, false, false, false] (by kernel_rfl) (by kernel_rfl) (by kernel_rfl) (by kernel_rfl) ?_
  intro w155 E156 hw157
  have hE159 := hE146.and0 E156
  have := E156.size
  have Q160 := Q148.step same E156 (by simp) no0
  have Q161 := Q149.step same E156 (by simp) no0
  have B162 := B150.eff0 E156
  have B163 := B151.eff0 E156
  have C164 := Kd.step (Kd.array 8 [] (Kd.slice Kd.str) rfl) C152 same E156 no0
  have B165 := B153.eff0 E156
  have B166 := B145.eff0 E156
  have hM167 := hM154.eff E156
  have hS158 := Eff.refl ([]) w155
  refine D.take 0 (.pointer (some ⟨pb, 0, none⟩)) (some 19) #[true, false, false, false, false, false, false, false, false, false, false, false, false] (by kernel_rfl) (by kernel_rfl) (by kernel_rfl) (fun _ _ _ _ h => LeaveP.put h (by kernel_rfl)) (.val (n := 33) (by kernel_rfl : lookAt _ _ _ _ = some ((Op.load 25 (Operand.tmp 0)), some 19)) (by intro c e; cases e) (fun _ h => rx_load 0 (.pointer (some ⟨pb, 0, none⟩)) ((B163.eff0 h).cells) (by kernel_rfl) (by kernel_rfl))) hS158 ?_
  refine D.take 1 (.pointer (some ⟨pb, 0, none⟩)) (some 20) #[true, true, false, false, false, false, false, false, false, false, false, false, false] (by kernel_rfl) (by kernel_rfl) (by kernel_rfl) (fun _ _ _ _ h => LeaveP.put h (by kernel_rfl)) (.pure (n := 33) (by kernel_rfl)) hS158 ?_
  refine D.take 2 (.pointer (some ⟨pb, 0, none⟩)) (some 21) #[true, true, true, false, false, false, false, false, false, false, false, false, false] (by kernel_rfl) (by kernel_rfl) (by kernel_rfl) (fun _ _ _ _ h => LeaveP.put h (by kernel_rfl)) (.pure (n := 33) (by kernel_rfl)) hS158 ?_
  refine D.take 3 (.pointer (some ⟨pb, 1, none⟩)) (some 22) #[true, true, true, true, false, false, false, false, false, false, false, false, false] (by kernel_rfl) (by kernel_rfl) (by kernel_rfl) (fun _ _ _ _ h => LeaveP.put h (by kernel_rfl)) (.pure (n := 33) (by kernel_rfl)) hS158 ?_
  refine D.take 4 (.map (some b2)) (some 23) #[true, true, true, true, true, false, false, false, false, false, false, false, false] (by kernel_rfl) (by kernel_rfl) (by kernel_rfl) (fun _ _ _ _ h => LeaveP.put h (by kernel_rfl)) (.val (n := 33) (by kernel_rfl : lookAt _ _ _ _ = some ((Op.load 54 (Operand.tmp 22)), some 23)) (by intro c e; cases e) (fun _ h => rx_load 1 (.map (some b2)) ((B162.eff0 h).cells) (by kernel_rfl) (by kernel_rfl))) hS158 ?_
  refine D.take 5 (.pointer (some ⟨c2, 1, none⟩)) (some 24) #[true, true, true, true, true, true, false, false, false, false, false, false, false] (by kernel_rfl) (by kernel_rfl) (by kernel_rfl) (fun _ _ _ _ h => LeaveP.put h (by kernel_rfl)) (.pure (n := 33) (by kernel_rfl)) hS158 ?_
  refine D.take 6 (sv x.uuid) (some 25) #[true, true, true, true, true, true, true, false, false, false, false, false, false] (by kernel_rfl) (by kernel_rfl) (by kernel_rfl) (fun _ _ _ _ h => LeaveP.put h (by kernel_rfl)) (.val (n := 33) (by kernel_rfl : lookAt _ _ _ _ = some ((Op.load 9 (Operand.tmp 24)), some 25)) (by intro c e; cases e) (fun _ h => rx_load 1 (sv x.uuid) ((B165.eff0 h).cells) (by kernel_rfl) (by kernel_rfl))) hS158 ?_
  rcases hg168 : mget l2 x.uuid with _ | y169
  ·have look170 := look_none (P := Tryz.prog) (t := 54) (kt := 9) (et := 9) (zv := sv []) hg168 Q161 (by kernel_rfl) (by kernel_rfl) (fun _ => by kernel_rfl)
   have := Q161.lt
   refine D.take 7 (.tuple #[sv [], .bool false]) (some 26) #[true, true, true, true, true, true, true, true, false, false, false, false, false] (by kernel_rfl) (by kernel_rfl) (by kernel_rfl) (fun _ _ _ _ h => LeaveP.put h (by kernel_rfl)) (.val (n := 33) (by kernel_rfl : lookAt _ _ _ _ = some ((Op.lookup 54 (Operand.tmp 23) (Operand.tmp 25) Bool.true), some 26)) (by intro c e; cases e) (fun _ h => look170 _ _ _ _ true _ (by kernel_rfl) (by kernel_rfl) (h.same _ Q161.lt (by simp)))) hS158 ?_
   refine D.take 8 (.tuple #[sv [], .bool false]) (some 18) #[true, true, true, true, true, true, true, true, true, false, false, false, false] (by kernel_rfl) (by kernel_rfl) (by kernel_rfl) (fun _ _ _ _ h => LeaveP.put h (by kernel_rfl)) (.pure (n := 33) (by kernel_rfl)) hS158 ?_
   refine D.take 9 (sv []) (some 27) #[true, true, true, true, true, true, true, true, true, true, false, false, false] (by kernel_rfl) (by kernel_rfl) (by kernel_rfl) (fun _ _ _ _ h => LeaveP.put h (by kernel_rfl)) (.pure (n := 33) (by kernel_rfl)) hS158 ?_
   refine D.take 10 (.bool false) (some 28) #[true, true, true, true, true, true, true, true, true, true, true, false, false] (by kernel_rfl) (by kernel_rfl) (by kernel_rfl) (fun _ _ _ _ h => LeaveP.put h (by kernel_rfl)) (.pure (n := 33) (by kernel_rfl)) hS158 ?_
   refine D.take 11 (sv []) (some 5) #[true, true, true, true, true, true, true, true, true, true, true, true, false] (by kernel_rfl) (by kernel_rfl) (by kernel_rfl) (fun _ _ _ _ h => LeaveP.put h (by kernel_rfl)) (.pure (n := 33) (by kernel_rfl)) hS158 ?_
   refine D.take 12 (.bool false) (some 6) #[true, true, true, true, true, true, true, true, true, true, true, true, true] (by kernel_rfl) (by kernel_rfl) (by kernel_rfl) (fun _ _ _ _ h => LeaveP.put h (by kernel_rfl)) (.pure (n := 33) (by kernel_rfl)) hS158 ?_
   refine D.done _ (by kernel_rfl) ?_
   show S _ _ _ c54_1_1_1 _ _ _ _
   refine S.seq (x := c54_n7) (y := c54_n8) (by kernel_rfl) ?_
   refine S.reg (ops := o54_n7) (js := [0, 1, 2, 3, 4]) (by kernel_rfl) (by kernel_rfl) ?_
   refine L.runU [0, 1, 2, 3, 4] [] [(29, .bool false), (30, .bool false), (31, .bool false), (32, .bool false), (2, .bool false)] (by kernel_rfl) (by kernel_rfl) ?_
   refine L.done ?_
   show S _ _ _ c54_n8 _ _ _ _
   refine S.ret (by kernel_rfl) ?_
   show Leave _ _ _ _ _ _ _ _
   refine Leave.ret1 (x := .tmp 2) (.bool false) (by kernel_rfl) (.ofT (by kernel_rfl)) ?_
   refine ⟨_, rfl, hE159, ?_⟩
   exact bool_eq (by simp [*])
  ·obtain ⟨cs172, R173, look171⟩ := look_some (P := Tryz.prog) (t := 54) (kt := 9) (et := 9) (zv := sv []) hg168 Q161 (by kernel_rfl) (by kernel_rfl) (fun _ => by kernel_rfl)
   obtain ⟨rfl, hl174⟩ := R173
   have := Q161.lt
   refine D.take 7 (.tuple #[sv y169, .bool true]) (some 26) #[true, true, true, true, true, true, true, true, false, false, false, false, false] (by kernel_rfl) (by kernel_rfl) (by kernel_rfl) (fun _ _ _ _ h => LeaveP.put h (by kernel_rfl)) (.val (n := 33) (by kernel_rfl : lookAt _ _ _ _ = some ((Op.lookup 54 (Operand.tmp 23) (Operand.tmp 25) Bool.true), some 26)) (by intro c e; cases e) (fun _ h => look171 _ _ _ _ true _ (by kernel_rfl) (by kernel_rfl) (h.same _ Q161.lt (by simp)))) hS158 ?_
   refine D.take 8 (.tuple #[sv y169, .bool true]) (some 18) #[true, true, true, true, true, true, true, true, true, false, false, false, false] (by kernel_rfl) (by kernel_rfl) (by kernel_rfl) (fun _ _ _ _ h => LeaveP.put h (by kernel_rfl)) (.pure (n := 33) (by kernel_rfl)) hS158 ?_
   refine D.take 9 (sv y169) (some 27) #[true, true, true, true, true, true, true, true, true, true, false, false, false] (by kernel_rfl) (by kernel_rfl) (by kernel_rfl) (fun _ _ _ _ h => LeaveP.put h (by kernel_rfl)) (.pure (n := 33) (by kernel_rfl)) hS158 ?_
   refine D.take 10 (.bool true) (some 28) #[true, true, true, true, true, true, true, true, true, true, true, false, false] (by kernel_rfl) (by kernel_rfl) (by kernel_rfl) (fun _ _ _ _ h => LeaveP.put h (by kernel_rfl)) (.pure (n := 33) (by kernel_rfl)) hS158 ?_
   refine D.take 11 (sv y169) (some 5) #[true, true, true, true, true, true, true, true, true, true, true, true, false] (by kernel_rfl) (by kernel_rfl) (by kernel_rfl) (fun _ _ _ _ h => LeaveP.put h (by kernel_rfl)) (.pure (n := 33) (by kernel_rfl)) hS158 ?_
   refine D.take 12 (.bool true) (some 6) #[true, true, true, true, true, true, true, true, true, true, true, true, true] (by kernel_rfl) (by kernel_rfl) (by kernel_rfl) (fun _ _ _ _ h => LeaveP.put h (by kernel_rfl)) (.pure (n := 33) (by kernel_rfl)) hS158 ?_
   refine D.done _ (by kernel_rfl) ?_
   show S _ _ _ c54_1_1_1 _ _ _ _
   refine S.seq (x := c54_n7) (y := c54_n8) (by kernel_rfl) ?_
   refine S.reg (ops := o54_n7) (js := [0, 1, 2, 3, 4]) (by kernel_rfl) (by kernel_rfl) ?_
   refine L.runU [0, 1, 2, 3, 4] [] [(29, .bool false), (30, .bool false), (31, .bool true), (32, .bool true), (2, .bool true)] (by kernel_rfl) (by kernel_rfl) ?_
   refine L.done ?_
   show S _ _ _ c54_n8 _ _ _ _
   refine S.ret (by kernel_rfl) ?_
   show Leave _ _ _ _ _ _ _ _
   refine Leave.ret1 (x := .tmp 2) (.bool true) (by kernel_rfl) (.ofT (by kernel_rfl)) ?_
   refine ⟨_, rfl, hE159, ?_⟩
   exact bool_eq (by simp [*])
 ·obtain ⟨cs176, R177, look175⟩ := look_some (P := Tryz.prog) (t := 53) (kt := 9) (et := 40) (zv := .agg #[sv [], sv [], .slice none 0 0, .slice none 0 0, .slice none 0 0, .slice none 0 0, .slice none 0 0, .slice none 0 0, .slice none 0 0, .slice none 0 0]) hg124 Q117 (by kernel_rfl) (by kernel_rfl) (fun _ => by kernel_rfl)
  obtain ⟨_, _, rfl, ⟨rfl, hl178⟩, ⟨_, _, rfl, ⟨rfl, hl179⟩, ⟨v180, v181, v182, v183, v184, v185, v186, v187, rfl, C188⟩⟩⟩ := R177
  have := Q117.lt
  refine D.take 7 (.tuple #[.agg #[sv y125.href, sv y125.uuid, v180, v181, v182, v183, v184, v185, v186, v187], .bool true]) (some 15) #[true, true, true, true, true, true, true, true, false, false, false, false, false, false] (by kernel_rfl) (by kernel_rfl) (by kernel_rfl) (fun _ _ _ _ h => LeaveP.put h (by kernel_rfl)) (.val (n := 33) (by kernel_rfl : lookAt _ _ _ _ = some ((Op.lookup 53 (Operand.tmp 12) (Operand.tmp 14) Bool.true), some 15)) (by intro c e; cases e) (fun _ h => look175 _ _ _ _ true _ (by kernel_rfl) (by kernel_rfl) (h.same _ Q117.lt (by simp)))) hS115 ?_
  refine D.take 8 (.tuple #[.agg #[sv y125.href, sv y125.uuid, v180, v181, v182, v183, v184, v185, v186, v187], .bool true]) (some 7) #[true, true, true, true, true, true, true, true, true, false, false, false, false, false] (by kernel_rfl) (by kernel_rfl) (by kernel_rfl) (fun _ _ _ _ h => LeaveP.put h (by kernel_rfl)) (.pure (n := 33) (by kernel_rfl)) hS115 ?_
  refine D.take 9 (.agg #[sv y125.href, sv y125.uuid, v180, v181, v182, v183, v184, v185, v186, v187]) (some 16) #[true, true, true, true, true, true, true, true, true, true, false, false, false, false] (by kernel_rfl) (by kernel_rfl) (by kernel_rfl) (fun _ _ _ _ h => LeaveP.put h (by kernel_rfl)) (.pure (n := 33) (by kernel_rfl)) hS115 ?_
  refine D.take 10 (.bool true) (some 17) #[true, true, true, true, true, true, true, true, true, true, true, false, false, false] (by kernel_rfl) (by kernel_rfl) (by kernel_rfl) (fun _ _ _ _ h => LeaveP.put h (by kernel_rfl)) (.pure (n := 33) (by kernel_rfl)) hS115 ?_
  refine D.all [11] (by kernel_rfl) (by kernel_rfl) ⟨?_, trivial⟩
  refine L.alloc [sv [], sv [], .slice none 0 0, .slice none 0 0, .slice none 0 0, .slice none 0 0, .slice none 0 0, .slice none 0 0, .slice none 0 0, .slice none 0 0] (by kernel_rfl : lookAt _ _ _ _ = some ((Op.alloc 40), some 3)) (by kernel_rfl) ?_
  intro b189 w190 hs191 hz192 E193 B194
  have hE195 := hE116.and0 E193
  have := E193.size
  have hS196 := hS115.and0 E193
  have Q197 := Q117.step (nNew (fresh1 hs191) same) E193 (by simp) no0
  have Q198 := Q118.step (nNew (fresh1 hs191) same) E193 (by simp) no0
  have B199 := B119.eff0 E193
  have B200 := B120.eff0 E193
  have C201 := Kd.step (Kd.array 8 [] (Kd.slice Kd.str) rfl) C121 (nNew (fresh1 hs191) same) E193 no0
  have B202 := B122.eff0 E193
  have C203 := Kd.step (Kd.array 8 [] (Kd.slice Kd.str) rfl) C188 (nNew (fresh1 hs191) same) E193 no0
  have hM204 : Mok ([b189] ++ M) w190 := hM123.step E193 (nNew (flt1 (b := b189) (by omega)) same)
  refine ⟨hS196, ?_⟩
  refine D.all [12] (by kernel_rfl) (by kernel_rfl) ⟨?_, trivial⟩
  refine L.store 0 [sv y125.href, sv y125.uuid, v180, v181, v182, v183, v184, v185, v186, v187] [sv y125.href, sv y125.uuid, v180, v181, v182, v183, v184, v185, v186, v187] (by kernel_rfl : lookAt _ _ _ _ = some ((Op.store 40 (Operand.tmp 3) (Operand.tmp 16)), none)) (by kernel_rfl) B194 (by kernel_rfl) (by kernel_rfl) (by kernel_rfl) (ones_app (a := [sv y125.href, sv y125.uuid]) (b := [v180, v181, v182, v183, v184, v185, v186, v187]) (one_of_all (by kernel_rfl)) (Kd.one (Kd.array 8 [] (Kd.slice Kd.str) rfl) C203)) (by kernel_rfl) ?_
  intro w205 E206 hz207 B208
  have hE209 := hE195.and1 E206 (by omega)
  have := E206.size
  have hS210 := hS196.and1 E206 (by omega)
  have Q211 := Q197.step same E206 (notin1 (by omega)) (in1 (List.mem_append_left _ (List.mem_singleton.2 rfl)))
  have Q212 := Q198.step same E206 (notin1 (by omega)) (in1 (List.mem_append_left _ (List.mem_singleton.2 rfl)))
  have B213 := B199.eff1 E206 (by omega)
  have B214 := B200.eff1 E206 (by omega)
  have C215 := Kd.step (Kd.array 8 [] (Kd.slice Kd.str) rfl) C201 same E206 (in1 (List.mem_append_left _ (List.mem_singleton.2 rfl)))
  have B216 := B202.eff1 E206 (by omega)
  have C217 := Kd.step (Kd.array 8 [] (Kd.slice Kd.str) rfl) C203 same E206 (in1 (List.mem_append_left _ (List.mem_singleton.2 rfl)))
  have hM218 := hM204.eff E206
  refine ⟨hS210, ?_⟩
  refine D.take 13 (.bool true) (some 4) #[true, true, true, true, true, true, true, true, true, true, true, true, true, true] (by kernel_rfl) (by kernel_rfl) (by kernel_rfl) (fun _ _ _ _ h => LeaveP.put h (by kernel_rfl)) (.pure (n := 33) (by kernel_rfl)) hS210 ?_
  refine D.done _ (by kernel_rfl) ?_
  show S _ _ _ c54_1_1 _ _ _ _
  refine S.seq (x := c54_1_1_0) (y := c54_1_1_1) (by kernel_rfl) ?_
  refine S.draw (ops := o54_1_1_0) (Eff ([])) 13 #[false, false, false, false, false, false, false, false, false, false, false, false, false] (by kernel_rfl) (by kernel_rfl) (by kernel_rfl) (by kernel_rfl) ?_
  intro w219 E220 hw221
  have hE223 := hE209.and0 E220
  have := E220.size
  have Q224 := Q211.step same E220 (by simp) no0
  have Q225 := Q212.step same E220 (by simp) no0
  have B226 := B213.eff0 E220
  have B227 := B214.eff0 E220
  have C228 := Kd.step (Kd.array 8 [] (Kd.slice Kd.str) rfl) C215 same E220 no0
  have B229 := B216.eff0 E220
  have C230 := Kd.step (Kd.array 8 [] (Kd.slice Kd.str) rfl) C217 same E220 no0
  have B231 := B208.eff0 E220
  have hM232 := hM218.eff E220
  have hS222 := Eff.refl ([]) w219
  refine D.take 0 (.pointer (some ⟨pb, 0, none⟩)) (some 19) #[true, false, false, false, false, false, false, false, false, false, false, false, false] (by kernel_rfl) (by kernel_rfl) (by kernel_rfl) (fun _ _ _ _ h => LeaveP.put h (by kernel_rfl)) (.val (n := 33) (by kernel_rfl : lookAt _ _ _ _ = some ((Op.load 25 (Operand.tmp 0)), some 19)) (by intro c e; cases e) (fun _ h => rx_load 0 (.pointer (some ⟨pb, 0, none⟩)) ((B227.eff0 h).cells) (by kernel_rfl) (by kernel_rfl))) hS222 ?_
  refine D.take 1 (.pointer (some ⟨pb, 0, none⟩)) (some 20) #[true, true, false, false, false, false, false, false, false, false, false, false, false] (by kernel_rfl) (by kernel_rfl) (by kernel_rfl) (fun _ _ _ _ h => LeaveP.put h (by kernel_rfl)) (.pure (n := 33) (by kernel_rfl)) hS222 ?_
  refine D.take 2 (.pointer (some ⟨pb, 0, none⟩)) (some 21) #[true, true, true, false, false, false, false, false, false, false, false, false, false] (by kernel_rfl) (by kernel_rfl) (by kernel_rfl) (fun _ _ _ _ h => LeaveP.put h (by kernel_rfl)) (.pure (n := 33) (by kernel_rfl)) hS222 ?_
  refine D.take 3 (.pointer (some ⟨pb, 1, none⟩)) (some 22) #[true, true, true, true, false, false, false, false, false, false, false, false, false] (by kernel_rfl) (by kernel_rfl) (by kernel_rfl) (fun _ _ _ _ h => LeaveP.put h (by kernel_rfl)) (.pure (n := 33) (by kernel_rfl)) hS222 ?_
  refine D.take 4 (.map (some b2)) (some 23) #[true, true, true, true, true, false, false, false, false, false, false, false, false] (by kernel_rfl) (by kernel_rfl) (by kernel_rfl) (fun _ _ _ _ h => LeaveP.put h (by kernel_rfl)) (.val (n := 33) (by kernel_rfl : lookAt _ _ _ _ = some ((Op.load 54 (Operand.tmp 22)), some 23)) (by intro c e; cases e) (fun _ h => rx_load 1 (.map (some b2)) ((B226.eff0 h).cells) (by kernel_rfl) (by kernel_rfl))) hS222 ?_
  refine D.take 5 (.pointer (some ⟨c2, 1, none⟩)) (some 24) #[true, true, true, true, true, true, false, false, false, false, false, false, false] (by kernel_rfl) (by kernel_rfl) (by kernel_rfl) (fun _ _ _ _ h => LeaveP.put h (by kernel_rfl)) (.pure (n := 33) (by kernel_rfl)) hS222 ?_
  refine D.take 6 (sv x.uuid) (some 25) #[true, true, true, true, true, true, true, false, false, false, false, false, false] (by kernel_rfl) (by kernel_rfl) (by kernel_rfl) (fun _ _ _ _ h => LeaveP.put h (by kernel_rfl)) (.val (n := 33) (by kernel_rfl : lookAt _ _ _ _ = some ((Op.load 9 (Operand.tmp 24)), some 25)) (by intro c e; cases e) (fun _ h => rx_load 1 (sv x.uuid) ((B229.eff0 h).cells) (by kernel_rfl) (by kernel_rfl))) hS222 ?_
  rcases hg233 : mget l2 x.uuid with _ | y234
  ·have look235 := look_none (P := Tryz.prog) (t := 54) (kt := 9) (et := 9) (zv := sv []) hg233 Q225 (by kernel_rfl) (by kernel_rfl) (fun _ => by kernel_rfl)
   have := Q225.lt
   refine D.take 7 (.tuple #[sv [], .bool false]) (some 26) #[true, true, true, true, true, true, true, true, false, false, false, false, false] (by kernel_rfl) (by kernel_rfl) (by kernel_rfl) (fun _ _ _ _ h => LeaveP.put h (by kernel_rfl)) (.val (n := 33) (by kernel_rfl : lookAt _ _ _ _ = some ((Op.lookup 54 (Operand.tmp 23) (Operand.tmp 25) Bool.true), some 26)) (by intro c e; cases e) (fun _ h => look235 _ _ _ _ true _ (by kernel_rfl) (by kernel_rfl) (h.same _ Q225.lt (by simp)))) hS222 ?_
   refine D.take 8 (.tuple #[sv [], .bool false]) (some 18) #[true, true, true, true, true, true, true, true, true, false, false, false, false] (by kernel_rfl) (by kernel_rfl) (by kernel_rfl) (fun _ _ _ _ h => LeaveP.put h (by kernel_rfl)) (.pure (n := 33) (by kernel_rfl)) hS222 ?_
   refine D.take 9 (sv []) (some 27) #[true, true, true, true, true, true, true, true, true, true, false, false, false] (by kernel_rfl) (by kernel_rfl) (by kernel_rfl) (fun _ _ _ _ h => LeaveP.put h (by kernel_rfl)) (.pure (n := 33) (by kernel_rfl)) hS222 ?_
   refine D.take 10 (.bool false) (some 28) #[true, true, true, true, true, true, true, true, true, true, true, false, false] (by kernel_rfl) (by kernel_rfl) (by kernel_rfl) (fun _ _ _ _ h => LeaveP.put h (by kernel_rfl)) (.pure (n := 33) (by kernel_rfl)) hS222 ?_
   refine D.take 11 (sv []) (some 5) #[true, true, true, true, true, true, true, true, true, true, true, true, false] (by kernel_rfl) (by kernel_rfl) (by kernel_rfl) (fun _ _ _ _ h => LeaveP.put h (by kernel_rfl)) (.pure (n := 33) (by kernel_rfl)) hS222 ?_
   refine D.take 12 (.bool false) (some 6) #[true, true, true, true, true, true, true, true, true, true, true, true, true] (by kernel_rfl) (by kernel_rfl) (by kernel_rfl) (fun _ _ _ _ h => LeaveP.put h (by kernel_rfl)) (.pure (n := 33) (by kernel_rfl)) hS222 ?_
   refine D.done _ (by kernel_rfl) ?_
   show S _ _ _ c54_1_1_1 _ _ _ _
   refine S.seq (x := c54_n7) (y := c54_n8) (by kernel_rfl) ?_
   refine S.reg (ops := o54_n7) (js := [0, 1, 2, 3, 4]) (by kernel_rfl) (by kernel_rfl) ?_
   refine L.runU [0, 1, 2, 3, 4] [] [(29, .bool true), (30, .bool true), (31, undef), (32, .bool true), (2, .bool true)] (by kernel_rfl) (by kernel_rfl) ?_
   refine L.done ?_
   show S _ _ _ c54_n8 _ _ _ _
   refine S.ret (by kernel_rfl) ?_
   show Leave _ _ _ _ _ _ _ _
   refine Leave.ret1 (x := .tmp 2) (.bool true) (by kernel_rfl) (.ofT (by kernel_rfl)) ?_
   refine ⟨_, rfl, hE223, ?_⟩
   exact bool_eq (by simp [*])
  ·obtain ⟨cs237, R238, look236⟩ := look_some (P := Tryz.prog) (t := 54) (kt := 9) (et := 9) (zv := sv []) hg233 Q225 (by kernel_rfl) (by kernel_rfl) (fun _ => by kernel_rfl)
   obtain ⟨rfl, hl239⟩ := R238
   have := Q225.lt
   refine D.take 7 (.tuple #[sv y234, .bool true]) (some 26) #[true, true, true, true, true, true, true, true, false, false, false, false, false] (by kernel_rfl) (by kernel_rfl) (by kernel_rfl) (fun _ _ _ _ h => LeaveP.put h (by kernel_rfl)) (.val (n := 33) (by kernel_rfl : lookAt _ _ _ _ = some ((Op.lookup 54 (Operand.tmp 23) (Operand.tmp 25) Bool.true), some 26)) (by intro c e; cases e) (fun _ h => look236 _ _ _ _ true _ (by kernel_rfl) (by kernel_rfl) (h.same _ Q225.lt (by simp)))) hS222 ?_
   refine D.take 8 (.tuple #[sv y234, .bool true]) (some 18) #[true, true, true, true, true, true, true, true, true, false, false, false, false] (by kernel_rfl) (by kernel_rfl) (by kernel_rfl) (fun _ _ _ _ h => LeaveP.put h (by kernel_rfl)) (.pure (n := 33) (by kernel_rfl)) hS222 ?_
   refine D.take 9 (sv y234) (some 27) #[true, true, true, true, true, true, true, true, true, true, false, false, false] (by kernel_rfl) (by kernel_rfl) (by kernel_rfl) (fun _ _ _ _ h => LeaveP.put h (by kernel_rfl)) (.pure (n := 33) (by kernel_rfl)) hS222 ?_
   refine D.take 10 (.bool true) (some 28) #[true, true, true, true, true, true, true, true, true, true, true, false, false] (by kernel_rfl) (by kernel_rfl) (by kernel_rfl) (fun _ _ _ _ h => LeaveP.put h (by kernel_rfl)) (.pure (n := 33) (by kernel_rfl)) hS222 ?_
   refine D.take 11 (sv y234) (some 5) #[true, true, true, true, true, true, true, true, true, true, true, true, false] (by kernel_rfl) (by kernel_rfl) (by kernel_rfl) (fun _ _ _ _ h => LeaveP.put h (by kernel_rfl)) (.pure (n := 33) (by kernel_rfl)) hS222 ?_
   refine D.take 12 (.bool true) (some 6) #[true, true, true, true, true, true, true, true, true, true, true, true, true] (by kernel_rfl) (by kernel_rfl) (by kernel_rfl) (fun _ _ _ _ h => LeaveP.put h (by kernel_rfl)) (.pure (n := 33) (by kernel_rfl)) hS222 ?_
   refine D.done _ (by kernel_rfl) ?_
   show S _ _ _ c54_1_1_1 _ _ _ _
   refine S.seq (x := c54_n7) (y := c54_n8) (by kernel_rfl) ?_
   refine S.reg (ops := o54_n7) (js := [0, 1, 2, 3, 4]) (by kernel_rfl) (by kernel_rfl) ?_
   refine L.runU [0, 1, 2, 3, 4] [] [(29, .bool true), (30, .bool true), (31, undef), (32, .bool true), (2, .bool true)] (by kernel_rfl) (by kernel_rfl) ?_
   refine L.done ?_
   show S _ _ _ c54_n8 _ _ _ _
   refine S.ret (by kernel_rfl) ?_
   show Leave _ _ _ _ _ _ _ _
   refine Leave.ret1 (x := .tmp 2) (.bool true) (by kernel_rfl) (.ofT (by kernel_rfl)) ?_
   refine ⟨_, rfl, hE223, ?_⟩
   exact bool_eq (by simp [*])
noncomputable def c27 : Code := bodyOf Tryz.f27
noncomputable def c27_0 : Code := kid 0 c27
noncomputable def o27_0 : Array Oper := regOps c27_0
noncomputable def c27_1 : Code := kid 1 c27
noncomputable def c27_1_0 : Code := kid 0 c27_1
noncomputable def c27_1_0_0 : Code := kid 0 c27_1_0
noncomputable def o27_1_0_0 : Array Oper := regOps c27_1_0_0
noncomputable def c27_1_0_1 : Code := kid 1 c27_1_0
noncomputable def c27_n6 : Code := kid 0 c27_1_0_1
noncomputable def c27_n7 : Code := kid 0 c27_n6
noncomputable def o27_n7 : Array Oper := regOps c27_n7
noncomputable def c27_n8 : Code := kid 1 c27_n6
noncomputable def c27_n9 : Code := kid 0 c27_n8
noncomputable def o27_n9 : Array Oper := regOps c27_n9
noncomputable def c27_n10 : Code := kid 1 c27_n8
noncomputable def c27_n11 : Code := kid 0 c27_n10
noncomputable def c27_n12 : Code := kid 1 c27_n10
noncomputable def c27_n13 : Code := kid 1 c27_1_0_1
noncomputable def c27_n14 : Code := kid 0 c27_n13
noncomputable def c27_n15 : Code := kid 0 c27_n14
noncomputable def o27_n15 : Array Oper := regOps c27_n15
noncomputable def c27_n16 : Code := kid 1 c27_n14
noncomputable def c27_n17 : Code := kid 0 c27_n16
noncomputable def o27_n17 : Array Oper := regOps c27_n17
noncomputable def c27_n18 : Code := kid 1 c27_n16
noncomputable def c27_n19 : Code := kid 0 c27_n18
noncomputable def c27_n20 : Code := kid 1 c27_n18
noncomputable def c27_n21 : Code := kid 1 c27_n13
noncomputable def c27_n22 : Code := kid 0 c27_n21
noncomputable def c27_n23 : Code := kid 0 c27_n22
noncomputable def o27_n23 : Array Oper := regOps c27_n23
noncomputable def c27_n24 : Code := kid 1 c27_n22
noncomputable def c27_n25 : Code := kid 0 c27_n24
noncomputable def o27_n25 : Array Oper := regOps c27_n25
noncomputable def c27_n26 : Code := kid 1 c27_n24
noncomputable def c27_n27 : Code := kid 0 c27_n26
noncomputable def c27_n28 : Code := kid 1 c27_n26
noncomputable def c27_n29 : Code := kid 1 c27_n21
noncomputable def c27_n30 : Code := kid 0 c27_n29
noncomputable def c27_n31 : Code := kid 0 c27_n30
noncomputable def o27_n31 : Array Oper := regOps c27_n31
noncomputable def c27_n32 : Code := kid 1 c27_n30
noncomputable def c27_n33 : Code := kid 0 c27_n32
noncomputable def o27_n33 : Array Oper := regOps c27_n33
noncomputable def c27_n34 : Code := kid 1 c27_n32
noncomputable def c27_n35 : Code := kid 0 c27_n34
noncomputable def c27_n36 : Code := kid 1 c27_n34
noncomputable def c27_n37 : Code := kid 1 c27_n29
noncomputable def c27_n38 : Code := kid 0 c27_n37
noncomputable def o27_n38 : Array Oper := regOps c27_n38
noncomputable def c27_n39 : Code := kid 1 c27_n37
noncomputable def c27_n40 : Code := kid 0 c27_n39
noncomputable def c27_n41 : Code := kid 0 c27_n40
noncomputable def o27_n41 : Array Oper := regOps c27_n41
noncomputable def c27_n42 : Code := kid 1 c27_n40
noncomputable def c27_n43 : Code := kid 1 c27_n39
noncomputable def c27_n45 : Code := kid 1 c27_n43
noncomputable def c27_n46 : Code := kid 0 c27_n45
noncomputable def o27_n46 : Array Oper := regOps c27_n46
noncomputable def c27_n47 : Code := kid 1 c27_n45
set_option maxHeartbeats 400000 in
theorem add_ok (M : List Nat) (pb b1 b2 : Nat) (l1 : List (Str × Pg)) (l2 : List (Str × Str)) (z : Value) (cs : List Value) (x : Pg) (w : World) (hB : Blk w pb [.map (some b1), .map (some b2), z] 59) (hp1 : pb ≠ b1) (hp2 : pb ≠ b2) (hM : Mok M w) (Q1 : MapIs Key.str kPg true M w b1 l1) (Q2 : MapIs Key.str Kd.str false M w b2 l2) (hb1 : b1 ∈ M) (hb2 : b2 ∈ M) (hne : b1 ≠ b2) (h : kPg.R M w cs x) : Calls Tryz.prog 27 #[.pointer (some ⟨pb, 0, none⟩), .agg (cs).toArray] w (RetW [b1, b2] w fun v w' => v = .int .i64 (addF l1 l2 x) ∧ MapIs Key.str kPg true M w' b1 (if addF l1 l2 x = 0 then mput l1 x.href x else l1) ∧ MapIs Key.str Kd.str false M w' b2 (if addF l1 l2 x = 0 then mput l2 x.uuid x.href else l2)) := by
 refine calls_of_S (n := 42) (c := c27) Tryz.func27 (by kernel_rfl) (by kernel_rfl) (Nat.le_of_ble_eq_true (by kernel_rfl)) ?_
 have := Q1.lt
 have := Q2.lt
 have := hB.lt
 obtain ⟨_, _, rfl, ⟨rfl, hl101⟩, ⟨_, _, rfl, ⟨rfl, hl102⟩, ⟨v103, v104, v105, v106, v107, v108, v109, v110, rfl, C111⟩⟩⟩ := h
 have hE0 : Eff [b1, b2] w w := Eff.refl _ _
 refine S.seq (x := c27_0) (y := c27_1) (by kernel_rfl) ?_
 refine S.reg (ops := o27_0) (js := [0, 1, 2]) (by kernel_rfl) (by kernel_rfl) ?_
 refine L.box [.pointer (some ⟨pb, 0, none⟩)] (by kernel_rfl : lookAt _ _ _ _ = some ((Op.box 25 (Operand.tmp 0)), some 2)) (by kernel_rfl) ?_
 intro b112 w113 hs114 hz115 E116 B117
 have hE118 := hE0.and0 E116
 have := E116.size
 have Q119 := Q1.step (nNew (fresh1 hs114) same) E116 (by simp) no0
 have Q120 := Q2.step (nNew (fresh1 hs114) same) E116 (by simp) no0
 have B121 := hB.eff0 E116
 have C122 := Kd.step (Kd.array 8 [] (Kd.slice Kd.str) rfl) C111 (nNew (fresh1 hs114) same) E116 no0
 have hM123 : Mok ([b112] ++ M) w113 := hM.step E116 (nNew (flt1 (b := b112) (by omega)) same)
 refine L.box [sv x.href, sv x.uuid, v103, v104, v105, v106, v107, v108, v109, v110] (by kernel_rfl : lookAt _ _ _ _ = some ((Op.box 40 (Operand.tmp 1)), some 3)) (by kernel_rfl) ?_
 intro b124 w125 hs126 hz127 E128 B129
 have hE130 := hE118.and0 E128
 have := E128.size
 have Q131 := Q119.step (nNew (fresh1 hs126) (nKeep same)) E128 (by simp) no0
 have Q132 := Q120.step (nNew (fresh1 hs126) (nKeep same)) E128 (by simp) no0
 have B133 := B121.eff0 E128
 have C134 := Kd.step (Kd.array 8 [] (Kd.slice Kd.str) rfl) C122 (nNew (fresh1 hs126) (nKeep same)) E128 no0
 have B135 := B117.eff0 E128
 have hM136 : Mok ([b124] ++ ([b112] ++ M)) w125 := hM123.step E128 (nNew (flt1 (b := b124) (by omega)) (nKeep same))
 refine L.runU [2] [] [(4, .int .i64 0)] (by kernel_rfl) (by kernel_rfl) ?_
 refine L.done ?_
 show S _ _ _ c27_1 _ _ _ _
 refine S.scope (x := c27_1_0) (rest := (Code.seq Code.skip c27_n45)) 0 (fun σ' ds' w' => ∃ (z2 : Int), (addF l1 l2 x = z2 ∧ z2 ≠ 0) ∧ MapIs Key.str kPg true ([b124] ++ ([b112] ++ M)) w' b1 l1 ∧ MapIs Key.str Kd.str false ([b124] ++ ([b112] ++ M)) w' b2 l2 ∧ Blk w' pb ([.map (some b1), .map (some b2), z]) 59 ∧ (Kd.array 8 [] (Kd.slice Kd.str) rfl).R ([b124] ++ ([b112] ++ M)) w' [v103, v104, v105, v106, v107, v108, v109, v110] x.shadow ∧ Blk w' b112 ([.pointer (some ⟨pb, 0, none⟩)]) 25 ∧ Blk w' b124 ([sv x.href, sv x.uuid, v103, v104, v105, v106, v107, v108, v109, v110]) 40 ∧ Mok ([b124] ++ ([b112] ++ M)) w' ∧ Eff [b1, b2] w w' ∧ w125.heap.size ≤ w'.heap.size ∧ ds' = [] ∧ ∃ u, σ' = slots u [(4, .int .i64 z2)]) (by kernel_rfl) (by kernel_rfl) ?_ ?_
 ·refine S.seq (x := c27_1_0_0) (y := c27_1_0_1) (by kernel_rfl) ?_
  refine S.reg (ops := o27_1_0_0) (js := [0, 1]) (by kernel_rfl) (by kernel_rfl) ?_
  refine L.runU [0, 1] [] [(6, .func (.func 54) #[] #[.pointer (some ⟨b112, 0, none⟩), .pointer (some ⟨b124, 0, none⟩)]), (5, .func (.func 54) #[] #[.pointer (some ⟨b112, 0, none⟩), .pointer (some ⟨b124, 0, none⟩)])] (by kernel_rfl) (by kernel_rfl) ?_
  refine L.done ?_
  show S _ _ _ c27_1_0_1 _ _ _ _
  refine S.seq (x := c27_n6) (y := c27_n13) (by kernel_rfl) ?_
  refine S.seq (x := c27_n7) (y := c27_n8) (by kernel_rfl) ?_
  refine S.reg (ops := o27_n7) (js := [0]) (by kernel_rfl) (by kernel_rfl) ?_
  refine L.runU [0] [] [(4, .int .i64 1)] (by kernel_rfl) (by kernel_rfl) ?_
  refine L.done ?_
  show S _ _ _ c27_n8 _ _ _ _
  refine S.seq (x := c27_n9) (y := c27_n10) (by kernel_rfl) ?_
  refine S.reg (ops := o27_n9) (js := [0, 1]) (by kernel_rfl) (by kernel_rfl) ?_
  refine L.val (.pointer (some ⟨pb, 0, none⟩)) (by kernel_rfl : lookAt _ _ _ _ = some ((Op.load 25 (Operand.tmp 2)), some 7)) (by intro c e; cases e) (rx_load 0 (.pointer (some ⟨pb, 0, none⟩)) (B135.cells) (by kernel_rfl) (by kernel_rfl)) ?_
  refine L.call (f := 40) (by kernel_rfl : lookAt _ _ _ _ = some ((Op.call { callee := (Callee.value (Operand.func 40)), args := #[(Operand.tmp 7)], argTypes := #[25] }), some 8)) e40 (by kernel_rfl) (none_no pb b1 (.map (some b2)) (z) _ B133) ?_
  rintro _ w141 E142 rfl
  have hE144 := hE130.and0 E142
  have := E142.size
  have Q145 := Q131.step same E142 (by simp) no0
  have Q146 := Q132.step same E142 (by simp) no0
  have B147 := B133.eff0 E142
  have C148 := Kd.step (Kd.array 8 [] (Kd.slice Kd.str) rfl) C134 same E142 no0
  have B149 := B135.eff0 E142
  have B150 := B129.eff0 E142
  have hM151 := hM136.eff E142
  refine L.done ?_
  show S _ _ _ c27_n10 _ _ _ _
  refine S.condF (o := (Operand.tmp 8)) (x := c27_n11) (y := c27_n12) (by kernel_rfl) (by kernel_rfl) ?_
  refine S.skip (by kernel_rfl) ?_
  show S _ _ _ c27_n13 _ _ _ _
  refine S.seq (x := c27_n14) (y := c27_n21) (by kernel_rfl) ?_
  refine S.seq (x := c27_n15) (y := c27_n16) (by kernel_rfl) ?_
  refine S.reg (ops := o27_n15) (js := [0]) (by kernel_rfl) (by kernel_rfl) ?_
  refine L.runU [0] [] [(4, .int .i64 2)] (by kernel_rfl) (by kernel_rfl) ?_
  refine L.done ?_
  show S _ _ _ c27_n16 _ _ _ _
  refine S.seq (x := c27_n17) (y := c27_n18) (by kernel_rfl) ?_
  refine S.reg (ops := o27_n17) (js := [0, 1, 2, 3, 4, 5, 6, 7, 8, 9, 10, 11, 12, 13, 14, 15]) (by kernel_rfl) (by kernel_rfl) ?_
  refine L.runU [0] [1, 2, 3, 4, 5, 6, 7, 8, 9, 10, 11, 12, 13, 14, 15] [(9, .pointer (some ⟨b124, 0, none⟩))] (by kernel_rfl) (by kernel_rfl) ?_
  refine L.val (sv x.href) (by kernel_rfl : lookAt _ _ _ _ = some ((Op.load 9 (Operand.tmp 9)), some 10)) (by intro c e; cases e) (rx_load 0 (sv x.href) (B150.cells) (by kernel_rfl) (by kernel_rfl)) ?_
  refine L.call (f := 52) (by kernel_rfl : lookAt _ _ _ _ = some ((Op.call { callee := (Callee.value (Operand.func 52)), args := #[(Operand.tmp 10)], argTypes := #[9] }), some 11)) e52 (by kernel_rfl) (dhref_ok x.href _ (by omega)) ?_
  rintro _ w153 E154 rfl
  have hE156 := hE144.and0 E154
  have := E154.size
  have Q157 := Q145.step same E154 (by simp) no0
  have Q158 := Q146.step same E154 (by simp) no0
  have B159 := B147.eff0 E154
  have C160 := Kd.step (Kd.array 8 [] (Kd.slice Kd.str) rfl) C148 same E154 no0
  have B161 := B149.eff0 E154
  have B162 := B150.eff0 E154
  have hM163 := hM151.eff E154
  refine L.runU [3, 4] [5, 6, 7, 8, 9, 10, 11, 12, 13, 14, 15] [(12, .bool (!(hrefF x.href))), (13, .bool (!(hrefF x.href)))] (by kernel_rfl) (by kernel_rfl) ?_
  refine X.splitB (G := fun σ => L _ _ _ _ _ _ σ _ _) (!(hrefF x.href)) 13 (by kernel_rfl) (fun h164 => ?_) (fun h164 => ?_)
  ·refine L.runU [5, 6, 7, 8, 9, 10, 11, 12, 13, 14, 15] [] [(14, undef), (15, undef), (16, undef), (17, undef), (18, .bool true), (19, .bool true), (20, undef), (21, undef), (22, undef), (23, undef), (24, .bool true)] (by kernel_rfl) (by kernel_rfl) ?_
   refine L.done ?_
   show S _ _ _ c27_n18 _ _ _ _
   refine S.condT (o := (Operand.tmp 24)) (x := c27_n19) (y := c27_n20) (by kernel_rfl) (by kernel_rfl) ?_
   refine S.goto (l := 0) (by kernel_rfl) ?_
   exact ⟨rfl, ⟨2, (by refine ⟨?_, by omega⟩; simp only [addF]; grind), Q157, Q158, B159, C160, B161, B162, hM163, hE156, (by omega), rfl, _, Holds.eq (l := [(4, .int .i64 2)]) ⟨by kernel_rfl, trivial⟩⟩⟩
  ·refine L.runU [5] [6, 7, 8, 9, 10, 11, 12, 13, 14, 15] [(14, .pointer (some ⟨b124, 1, none⟩))] (by kernel_rfl) (by kernel_rfl) ?_
   refine L.val (sv x.uuid) (by kernel_rfl : lookAt _ _ _ _ = some ((Op.load 9 (Operand.tmp 14)), some 15)) (by intro c e; cases e) (rx_load 1 (sv x.uuid) (B162.cells) (by kernel_rfl) (by kernel_rfl)) ?_
   refine L.call (f := 50) (by kernel_rfl : lookAt _ _ _ _ = some ((Op.call { callee := (Callee.value (Operand.func 50)), args := #[(Operand.tmp 15)], argTypes := #[9] }), some 16)) e50 (by kernel_rfl) (uuid_ok x.uuid _ (by omega)) ?_
   rintro _ w166 E167 rfl
   have hE169 := hE156.and0 E167
   have := E167.size
   have Q170 := Q157.step same E167 (by simp) no0
   have Q171 := Q158.step same E167 (by simp) no0
   have B172 := B159.eff0 E167
   have C173 := Kd.step (Kd.array 8 [] (Kd.slice Kd.str) rfl) C160 same E167 no0
   have B174 := B161.eff0 E167
   have B175 := B162.eff0 E167
   have hM176 := hM163.eff E167
   refine L.runU [8, 9, 10] [11, 12, 13, 14, 15] [(17, .bool (!(uuidF x.uuid))), (18, .bool (!(uuidF x.uuid))), (19, .bool (!(uuidF x.uuid)))] (by kernel_rfl) (by kernel_rfl) ?_
   refine X.splitB (G := fun σ => L _ _ _ _ _ _ σ _ _) (!(uuidF x.uuid)) 19 (by kernel_rfl) (fun h177 => ?_) (fun h177 => ?_)
   ·refine L.runU [11, 12, 13, 14, 15] [] [(20, undef), (21, undef), (22, undef), (23, undef), (24, .bool true)] (by kernel_rfl) (by kernel_rfl) ?_
    refine L.done ?_
    show S _ _ _ c27_n18 _ _ _ _
    refine S.condT (o := (Operand.tmp 24)) (x := c27_n19) (y := c27_n20) (by kernel_rfl) (by kernel_rfl) ?_
    refine S.goto (l := 0) (by kernel_rfl) ?_
    exact ⟨rfl, ⟨2, (by refine ⟨?_, by omega⟩; simp only [addF]; grind), Q170, Q171, B172, C173, B174, B175, hM176, hE169, (by omega), rfl, _, Holds.eq (l := [(4, .int .i64 2)]) ⟨by kernel_rfl, trivial⟩⟩⟩
   ·refine L.runU [11] [12, 13, 14, 15] [(20, .pointer (some ⟨b124, 2, none⟩))] (by kernel_rfl) (by kernel_rfl) ?_
    refine L.val (.agg #[v103, v104, v105, v106, v107, v108, v109, v110]) (by kernel_rfl : lookAt _ _ _ _ = some ((Op.load 32 (Operand.tmp 20)), some 21)) (by intro c e; cases e) (rx_load 2 (.agg #[v103, v104, v105, v106, v107, v108, v109, v110]) (B175.cells) (by kernel_rfl) (by kernel_rfl)) ?_
    refine L.call (f := 53) (by kernel_rfl : lookAt _ _ _ _ = some ((Op.call { callee := (Callee.value (Operand.func 53)), args := #[(Operand.tmp 21)], argTypes := #[32] }), some 22)) e53 (by kernel_rfl) (check_ok [v103, v104, v105, v106, v107, v108, v109, v110] x.shadow _ (Kd.wk0 kCt ⟨_, _, _, _, _, _, _, _, rfl, C173⟩)) ?_
    rintro _ w179 E180 rfl
    have hE182 := hE169.and0 E180
    have := E180.size
    have Q183 := Q170.step same E180 (by simp) no0
    have Q184 := Q171.step same E180 (by simp) no0
    have B185 := B172.eff0 E180
    have C186 := Kd.step (Kd.array 8 [] (Kd.slice Kd.str) rfl) C173 same E180 no0
    have B187 := B174.eff0 E180
    have B188 := B175.eff0 E180
    have hM189 := hM176.eff E180
    refine L.runU [14, 15] [] [(23, .bool (!decide ((if rightF x.shadow = true then 0 else 2 : Int) = 0))), (24, .bool (!decide ((if rightF x.shadow = true then 0 else 2 : Int) = 0)))] (by kernel_rfl) (by kernel_rfl) ?_
    refine L.done ?_
    show S _ _ _ c27_n18 _ _ _ _
    refine S.condN ((if rightF x.shadow = true then 0 else 2 : Int) = 0) (o := (Operand.tmp 24)) (x := c27_n19) (y := c27_n20) (by kernel_rfl) (by kernel_rfl) (fun h190 => ?_) (fun h190 => ?_)
    ·refine S.goto (l := 0) (by kernel_rfl) ?_
     exact ⟨rfl, ⟨2, (by refine ⟨?_, by omega⟩; simp only [addF]; grind), Q183, Q184, B185, C186, B187, B188, hM189, hE182, (by omega), rfl, _, Holds.eq (l := [(4, .int .i64 2)]) ⟨by kernel_rfl, trivial⟩⟩⟩
    ·refine S.skip (by kernel_rfl) ?_
     show S _ _ _ c27_n21 _ _ _ _
     refine S.seq (x := c27_n22) (y := c27_n29) (by kernel_rfl) ?_
     refine S.seq (x := c27_n23) (y := c27_n24) (by kernel_rfl) ?_
     refine S.reg (ops := o27_n23) (js := [0]) (by kernel_rfl) (by kernel_rfl) ?_
     refine L.runU [0] [] [(4, .int .i64 300)] (by kernel_rfl) (by kernel_rfl) ?_
     refine L.done ?_
     show S _ _ _ c27_n24 _ _ _ _
     refine S.seq (x := c27_n25) (y := c27_n26) (by kernel_rfl) ?_
     refine S.reg (ops := o27_n25) (js := [0, 1]) (by kernel_rfl) (by kernel_rfl) ?_
     refine L.runU [0] [1] [(25, .func (.func 54) #[] #[.pointer (some ⟨b112, 0, none⟩), .pointer (some ⟨b124, 0, none⟩)])] (by kernel_rfl) (by kernel_rfl) ?_
     refine L.call (f := 54) (by kernel_rfl : lookAt _ _ _ _ = some ((Op.call { callee := (Callee.value (Operand.tmp 25)), args := #[], argTypes := #[] }), some 26)) e54 (by kernel_rfl) (paired_ok ([b124] ++ ([b112] ++ M)) pb b1 b2 l1 l2 (z) b112 b124 [sv x.href, sv x.uuid, v103, v104, v105, v106, v107, v108, v109, v110] x _ B185 hp1 hp2 hM189 Q183 Q184 (by simp [*]) (by simp [*]) hne B187 (⟨[sv x.href], [sv x.uuid, v103, v104, v105, v106, v107, v108, v109, v110], rfl, ⟨rfl, by omega⟩, ⟨[sv x.uuid], [v103, v104, v105, v106, v107, v108, v109, v110], rfl, ⟨rfl, by omega⟩, ⟨_, _, _, _, _, _, _, _, rfl, C186⟩⟩⟩) B188) ?_
     rintro _ w192 E193 rfl
     have hE195 := hE182.and0 E193
     have := E193.size
     have Q196 := Q183.step same E193 (by simp) no0
     have Q197 := Q184.step same E193 (by simp) no0
     have B198 := B185.eff0 E193
     have C199 := Kd.step (Kd.array 8 [] (Kd.slice Kd.str) rfl) C186 same E193 no0
     have B200 := B187.eff0 E193
     have B201 := B188.eff0 E193
     have hM202 := hM189.eff E193
     refine L.done ?_
     show S _ _ _ c27_n26 _ _ _ _
     refine S.cond ((mget l1 x.href).isSome || (mget l2 x.uuid).isSome) (o := (Operand.tmp 26)) (x := c27_n27) (y := c27_n28) (by kernel_rfl) (by kernel_rfl) (fun h203 => ?_) (fun h203 => ?_)
     ·refine S.goto (l := 0) (by kernel_rfl) ?_
      exact ⟨rfl, ⟨300, (by refine ⟨?_, by omega⟩; simp only [addF]; grind), Q196, Q197, B198, C199, B200, B201, hM202, hE195, (by omega), rfl, _, Holds.eq (l := [(4, .int .i64 300)]) ⟨by kernel_rfl, trivial⟩⟩⟩
     ·refine S.skip (by kernel_rfl) ?_
      show S _ _ _ c27_n29 _ _ _ _
      refine S.seq (x := c27_n30) (y := c27_n37) (by kernel_rfl) ?_
      refine S.seq (x := c27_n31) (y := c27_n32) (by kernel_rfl) ?_
      refine S.reg (ops := o27_n31) (js := [0]) (by kernel_rfl) (by kernel_rfl) ?_
      refine L.runU [0] [] [(4, .int .i64 3)] (by kernel_rfl) (by kernel_rfl) ?_
      refine L.done ?_
      show S _ _ _ c27_n32 _ _ _ _
      refine S.seq (x := c27_n33) (y := c27_n34) (by kernel_rfl) ?_
      refine S.reg (ops := o27_n33) (js := [0, 1, 2, 3, 4, 5, 6]) (by kernel_rfl) (by kernel_rfl) ?_
      refine L.val (.pointer (some ⟨pb, 0, none⟩)) (by kernel_rfl : lookAt _ _ _ _ = some ((Op.load 25 (Operand.tmp 2)), some 27)) (by intro c e; cases e) (rx_load 0 (.pointer (some ⟨pb, 0, none⟩)) (B200.cells) (by kernel_rfl) (by kernel_rfl)) ?_
      refine L.runU [1, 2, 3] [4, 5, 6] [(28, .pointer (some ⟨pb, 0, none⟩)), (29, .pointer (some ⟨pb, 0, none⟩)), (30, .pointer (some ⟨pb, 0, none⟩))] (by kernel_rfl) (by kernel_rfl) ?_
      refine L.val (.map (some b1)) (by kernel_rfl : lookAt _ _ _ _ = some ((Op.load 53 (Operand.tmp 30)), some 31)) (by intro c e; cases e) (rx_load 0 (.map (some b1)) (B198.cells) (by kernel_rfl) (by kernel_rfl)) ?_
      refine L.val (.int .i64 (((l1.length : Nat) : Int))) (by kernel_rfl : lookAt _ _ _ _ = some ((Op.call { callee := (Callee.builtin Builtin.len), args := #[(Operand.tmp 31)], argTypes := #[53] }), some 32)) (by intro c e; cases e) (rx_lenMapOp (kt := 9) (et := 40) (by kernel_rfl) (by kernel_rfl) (Q196)) ?_
      refine L.runU [6] [] [(33, .bool (decide (64 ≤ ((l1.length : Nat) : Int))))] (by kernel_rfl) (by kernel_rfl) ?_
      refine L.done ?_
      show S _ _ _ c27_n34 _ _ _ _
      refine S.condP (64 ≤ ((l1.length : Nat) : Int)) (o := (Operand.tmp 33)) (x := c27_n35) (y := c27_n36) (by kernel_rfl) (by kernel_rfl) (fun h204 => ?_) (fun h204 => ?_)
      ·refine S.goto (l := 0) (by kernel_rfl) ?_
       exact ⟨rfl, ⟨3, (by refine ⟨?_, by omega⟩; simp only [addF]; grind), Q196, Q197, B198, C199, B200, B201, hM202, hE195, (by omega), rfl, _, Holds.eq (l := [(4, .int .i64 3)]) ⟨by kernel_rfl, trivial⟩⟩⟩
      ·refine S.skip (by kernel_rfl) ?_
       show S _ _ _ c27_n37 _ _ _ _
       refine S.seq (x := c27_n38) (y := c27_n39) (by kernel_rfl) ?_
       refine S.draw (ops := o27_n38) (Eff ([b1] ++ [b2])) 7 #[false, false, false, false, false, false, false] (by kernel_rfl) (by kernel_rfl) (by kernel_rfl) (by kernel_rfl) ?_
       intro w205 E206 hw207
       have hE209 := hE195.and0 E206
       have := E206.size
       have Q210 := Q196.step same E206 (by simp) no0
       have Q211 := Q197.step same E206 (by simp) no0
       have B212 := B198.eff0 E206
       have C213 := Kd.step (Kd.array 8 [] (Kd.slice Kd.str) rfl) C199 same E206 no0
       have B214 := B200.eff0 E206
       have B215 := B201.eff0 E206
       have hM216 := hM202.eff E206
       have hS208 := Eff.refl ([b1] ++ [b2]) w205
       refine D.take 0 (.pointer (some ⟨pb, 0, none⟩)) (some 34) #[true, false, false, false, false, false, false] (by kernel_rfl) (by kernel_rfl) (by kernel_rfl) (fun _ _ _ _ h => LeaveP.put h (by kernel_rfl)) (.val (n := 42) (by kernel_rfl : lookAt _ _ _ _ = some ((Op.load 25 (Operand.tmp 2)), some 34)) (by intro c e; cases e) (fun _ h => rx_load 0 (.pointer (some ⟨pb, 0, none⟩)) ((B214.eff h (nin (notin1 (by omega)) (notin1 (by omega)))).cells) (by kernel_rfl) (by kernel_rfl))) hS208 ?_
       refine D.take 1 (.pointer (some ⟨pb, 0, none⟩)) (some 35) #[true, true, false, false, false, false, false] (by kernel_rfl) (by kernel_rfl) (by kernel_rfl) (fun _ _ _ _ h => LeaveP.put h (by kernel_rfl)) (.pure (n := 42) (by kernel_rfl)) hS208 ?_
       refine D.take 2 (.pointer (some ⟨pb, 0, none⟩)) (some 36) #[true, true, true, false, false, false, false] (by kernel_rfl) (by kernel_rfl) (by kernel_rfl) (fun _ _ _ _ h => LeaveP.put h (by kernel_rfl)) (.pure (n := 42) (by kernel_rfl)) hS208 ?_
       refine D.take 3 (.agg #[.map (some b1), .map (some b2)]) (some 37) #[true, true, true, true, false, false, false] (by kernel_rfl) (by kernel_rfl) (by kernel_rfl) (fun _ _ _ _ h => LeaveP.put h (by kernel_rfl)) (.val (n := 42) (by kernel_rfl : lookAt _ _ _ _ = some ((Op.load 56 (Operand.tmp 36)), some 37)) (by intro c e; cases e) (fun _ h => rx_load 0 (.agg #[.map (some b1), .map (some b2)]) ((B212.eff h (nin (notin1 (by omega)) (notin1 (by omega)))).cells) (by kernel_rfl) (by kernel_rfl))) hS208 ?_
       refine D.take 4 (.agg #[sv x.href, sv x.uuid, v103, v104, v105, v106, v107, v108, v109, v110]) (some 38) #[true, true, true, true, true, false, false] (by kernel_rfl) (by kernel_rfl) (by kernel_rfl) (fun _ _ _ _ h => LeaveP.put h (by kernel_rfl)) (.val (n := 42) (by kernel_rfl : lookAt _ _ _ _ = some ((Op.load 40 (Operand.tmp 3)), some 38)) (by intro c e; cases e) (fun _ h => rx_load 0 (.agg #[sv x.href, sv x.uuid, v103, v104, v105, v106, v107, v108, v109, v110]) ((B215.eff h (nin (notin1 (by omega)) (notin1 (by omega)))).cells) (by kernel_rfl) (by kernel_rfl))) hS208 ?_
       refine D.all [5] (by kernel_rfl) (by kernel_rfl) ⟨?_, trivial⟩
       refine L.call (f := 41) (by kernel_rfl : lookAt _ _ _ _ = some ((Op.call { callee := (Callee.value (Operand.func 41)), args := #[(Operand.tmp 38)], argTypes := #[40] }), some 39)) e41 (by kernel_rfl) (copied_ok ([b124] ++ ([b112] ++ M)) [sv x.href, sv x.uuid, v103, v104, v105, v106, v107, v108, v109, v110] x _ hM216 (⟨[sv x.href], [sv x.uuid, v103, v104, v105, v106, v107, v108, v109, v110], rfl, ⟨rfl, by omega⟩, ⟨[sv x.uuid], [v103, v104, v105, v106, v107, v108, v109, v110], rfl, ⟨rfl, by omega⟩, ⟨_, _, _, _, _, _, _, _, rfl, C213⟩⟩⟩) (right_small (C213).2.1 (by grind))) ?_
       rintro _ w220 E221 ⟨cs217, rfl, R218⟩
       obtain ⟨_, _, rfl, ⟨rfl, hl223⟩, ⟨_, _, rfl, ⟨rfl, hl224⟩, ⟨v225, v226, v227, v228, v229, v230, v231, v232, rfl, C233⟩⟩⟩ := R218
       have hE234 := hE209.and0 E221
       have := E221.size
       have hS235 := hS208.and0 E221
       have Q236 := Q210.step same E221 (by simp) no0
       have Q237 := Q211.step same E221 (by simp) no0
       have B238 := B212.eff0 E221
       have C239 := Kd.step (Kd.array 8 [] (Kd.slice Kd.str) rfl) C213 same E221 no0
       have B240 := B214.eff0 E221
       have B241 := B215.eff0 E221
       have hM242 := hM216.eff E221
       refine ⟨hS235, ?_⟩
       refine D.all [6] (by kernel_rfl) (by kernel_rfl) ⟨?_, trivial⟩
       refine L.call (f := 43) (by kernel_rfl : lookAt _ _ _ _ = some ((Op.call { callee := (Callee.value (Operand.func 43)), args := #[(Operand.tmp 37), (Operand.tmp 39)], argTypes := #[56, 40] }), some 40)) e43 (by kernel_rfl) (put_ok ([b124] ++ ([b112] ++ M)) b1 b2 l1 l2 [sv x.href, sv x.uuid, v225, v226, v227, v228, v229, v230, v231, v232] x _ hM242 Q236 Q237 (by simp [*]) (by simp [*]) hne (⟨[sv x.href], [sv x.uuid, v225, v226, v227, v228, v229, v230, v231, v232], rfl, ⟨rfl, by omega⟩, ⟨[sv x.uuid], [v225, v226, v227, v228, v229, v230, v231, v232], rfl, ⟨rfl, by omega⟩, ⟨_, _, _, _, _, _, _, _, rfl, C233⟩⟩⟩)) ?_
       rintro _ w244 E245 ⟨rfl, Q247, Q248⟩
       have hE249 := hE234.andIn E245 (fun _ h => h)
       have := E245.size
       have hS250 := hS235.andIn E245 (fun _ h => h)
       have hsub251 : ∀ b, b ∈ [b1, b2] → b ∈ [b124] ++ ([b112] ++ M) := by simp [*]
       have F252 := B238.eff E245 (by simp; omega)
       have F253 := Kd.step (Kd.array 8 [] (Kd.slice Kd.str) rfl) C239 same E245 hsub251
       have F254 := B240.eff E245 (by simp; omega)
       have F255 := B241.eff E245 (by simp; omega)
       have F256 := Kd.step (Kd.array 8 [] (Kd.slice Kd.str) rfl) C233 same E245 hsub251
       have hM257 := hM242.eff E245
       refine ⟨hS250, ?_⟩
       refine D.done _ (by kernel_rfl) ?_
       show S _ _ _ c27_n39 _ _ _ _
       refine S.seq (x := c27_n40) (y := c27_n43) (by kernel_rfl) ?_
       refine S.seq (x := c27_n41) (y := c27_n42) (by kernel_rfl) ?_
       refine S.reg (ops := o27_n41) (js := [0]) (by kernel_rfl) (by kernel_rfl) ?_
       refine L.runU [0] [] [(4, .int .i64 0)] (by kernel_rfl) (by kernel_rfl) ?_
       refine L.done ?_
       show S _ _ _ c27_n42 _ _ _ _
       refine S.ret (by kernel_rfl) ?_
       show Leave _ _ _ _ _ _ _ _
       refine Leave.ret1 (x := .tmp 4) (.int .i64 0) (by kernel_rfl) (.ofT (by kernel_rfl)) ?_
       have hsub258 : ∀ b, b ∈ M → b ∈ [b124] ++ ([b112] ++ M) := (sDrop (sDrop sSame))
       have hM259 : Mok (M) w244 := hM257.sub hsub258
       have F260 := Kd.sub (Kd.array 8 [] (Kd.slice Kd.str) rfl) F253 hsub258
       have F261 := Kd.sub (Kd.array 8 [] (Kd.slice Kd.str) rfl) F256 hsub258
       have F262 := Q247.sub hsub258
       have F263 := Q248.sub hsub258
       have h0 : addF l1 l2 x = 0 := by simp only [addF]; grind
       exact ⟨_, rfl, hE249, by rw [h0], by rw [if_pos h0]; exact F262, by rw [if_pos h0]; exact F263⟩
 rintro σ' ds' w137 ⟨z2, hz, F265, F266, F267, F268, F269, F270, hM271, hE272, hz273, rfl, u139, rfl⟩
 refine S.seq (x := Code.skip) (y := c27_n45) (by kernel_rfl) ?_
 refine S.skip (by kernel_rfl) ?_
 show S _ _ _ c27_n45 _ _ _ _
 refine S.seq (x := c27_n46) (y := c27_n47) (by kernel_rfl) ?_
 refine S.reg (ops := o27_n46) (js := [0, 1]) (by kernel_rfl) (by kernel_rfl) ?_
 refine L.runU [0, 1] [] [(41, .int .i64 z2), (4, .int .i64 z2)] (by kernel_rfl) (by kernel_rfl) ?_
 refine L.done ?_
 show S _ _ _ c27_n47 _ _ _ _
 refine S.ret (by kernel_rfl) ?_
 show Leave _ _ _ _ _ _ _ _
 refine Leave.ret1 (x := .tmp 4) (.int .i64 z2) (by kernel_rfl) (.ofT (by kernel_rfl)) ?_
 have hsub274 : ∀ b, b ∈ M → b ∈ [b124] ++ ([b112] ++ M) := (sDrop (sDrop sSame))
 have hM275 : Mok (M) w137 := hM271.sub hsub274
 have F276 := F265.sub hsub274
 have F277 := F266.sub hsub274
 have F278 := Kd.sub (Kd.array 8 [] (Kd.slice Kd.str) rfl) F268 hsub274
 have h0 : ¬ addF l1 l2 x = 0 := by rw [hz.1]; exact hz.2
 exact ⟨_, rfl, hE272, by rw [hz.1], by rw [if_neg h0]; exact F276, by rw [if_neg h0]; exact F277⟩
end Go.Proofs.YtjleeadiadpiaaaGreatDoor
namespace Go.Proofs.YtjleeadiadpiaaaGreatDoor
open Go Go.Fx Go.RowKit
def dropL2 (l1 : List (Str × Pg)) (l2 : List (Str × Str)) (q : Str) : List (Str × Str) := match mget l1 q with | some x => mdel l2 x.uuid | none => l2
def setL1 (l1 : List (Str × Pg)) (q : Str) (c : List (List Str)) : List (Str × Pg) := match rightF c, mget l1 q with | true, some x => mput l1 x.href ⟨x.href, x.uuid, c⟩ | _, _ => l1
def setL2 (l1 : List (Str × Pg)) (l2 : List (Str × Str)) (q : Str) (c : List (List Str)) : List (Str × Str) := match rightF c, mget l1 q with | true, some x => mput l2 x.uuid x.href | _, _ => l2
end Go.Proofs.YtjleeadiadpiaaaGreatDoor
namespace Go.Proofs.YtjleeadiadpiaaaGreatDoor
open Go Go.Fx Go.RowKit
def zeroPg : Pg := ⟨[], [], List.replicate 8 []⟩
def cardF (l1 : List (Str × Pg)) (q : Str) : Pg := match mget l1 q with | some x => x | none => zeroPg
theorem small0 : ∀ j, ((List.replicate 8 ([] : List Str)).getD j []).length ≤ 1048576 := by
 intro j
 have : (List.replicate 8 ([] : List Str)).getD j [] = [] := by
  rw [List.getD_eq_getElem?_getD, List.getElem?_replicate]; split <;> rfl
 rw [this]; simp
noncomputable def c14 : Code := bodyOf Tryz.f14
noncomputable def c14_0 : Code := kid 0 c14
noncomputable def o14_0 : Array Oper := regOps c14_0
noncomputable def c14_1 : Code := kid 1 c14
noncomputable def c14_1_0 : Code := kid 0 c14_1
noncomputable def c14_1_0_0 : Code := kid 0 c14_1_0
noncomputable def o14_1_0_0 : Array Oper := regOps c14_1_0_0
noncomputable def c14_1_0_1 : Code := kid 1 c14_1_0
noncomputable def c14_n6 : Code := kid 0 c14_1_0_1
noncomputable def c14_n9 : Code := kid 1 c14_1_0_1
noncomputable def c14_1_1 : Code := kid 1 c14_1
noncomputable def c14_1_1_0 : Code := kid 0 c14_1_1
noncomputable def o14_1_1_0 : Array Oper := regOps c14_1_1_0
noncomputable def c14_1_1_1 : Code := kid 1 c14_1_1
noncomputable def c14_n13 : Code := kid 0 c14_1_1_1
noncomputable def o14_n13 : Array Oper := regOps c14_n13
noncomputable def c14_n14 : Code := kid 1 c14_1_1_1
set_option maxHeartbeats 400000 in
theorem card_ok (M : List Nat) (pb b1 b2 : Nat) (l1 : List (Str × Pg)) (l2 : List (Str × Str)) (z : Value) (q : Str) (w : World) (hB : Blk w pb [.map (some b1), .map (some b2), z] 59) (hp1 : pb ≠ b1) (hp2 : pb ≠ b2) (hM : Mok M w) (Q1 : MapIs Key.str kPg true M w b1 l1) (Q2 : MapIs Key.str Kd.str false M w b2 l2) (hb1 : b1 ∈ M) (hb2 : b2 ∈ M) (hne : b1 ≠ b2) (hs : ∀ q x, mget l1 q = some x → ∀ j, (x.shadow.getD j []).length ≤ 1048576) : Calls Tryz.prog 14 #[.pointer (some ⟨pb, 0, none⟩), sv q] w (RetW [] w fun v w' => ∃ cs, v = .tuple #[.agg cs.toArray, .bool (mget l1 q).isSome] ∧ kPg.R M w' cs (cardF l1 q)) := by
 refine calls_of_S (n := 24) (c := c14) Tryz.func14 (by kernel_rfl) (by kernel_rfl) (Nat.le_of_ble_eq_true (by kernel_rfl)) ?_
 have := Q1.lt
 have := Q2.lt
 have := hB.lt
 have hE0 : Eff [] w w := Eff.refl _ _
 refine S.seq (x := c14_0) (y := c14_1) (by kernel_rfl) ?_
 refine S.reg (ops := o14_0) (js := [0, 1]) (by kernel_rfl) (by kernel_rfl) ?_
 refine L.alloc [sv [], sv [], .slice none 0 0, .slice none 0 0, .slice none 0 0, .slice none 0 0, .slice none 0 0, .slice none 0 0, .slice none 0 0, .slice none 0 0] (by kernel_rfl : lookAt _ _ _ _ = some ((Op.alloc 40), some 4)) (by kernel_rfl) ?_
 intro b101 w102 hs103 hz104 E105 B106
 have hE107 := hE0.and0 E105
 have := E105.size
 have Q108 := Q1.step (nNew (fresh1 hs103) same) E105 (by simp) no0
 have Q109 := Q2.step (nNew (fresh1 hs103) same) E105 (by simp) no0
 have B110 := hB.eff0 E105
 have hM111 : Mok ([b101] ++ M) w102 := hM.step E105 (nNew (flt1 (b := b101) (by omega)) same)
 refine L.runU [1] [] [(5, .bool false)] (by kernel_rfl) (by kernel_rfl) ?_
 refine L.done ?_
 show S _ _ _ c14_1 _ _ _ _
 refine S.seq (x := c14_1_0) (y := c14_1_1) (by kernel_rfl) ?_
 refine S.seq (x := c14_1_0_0) (y := c14_1_0_1) (by kernel_rfl) ?_
 refine S.reg (ops := o14_1_0_0) (js := [0, 1]) (by kernel_rfl) (by kernel_rfl) ?_
 refine L.runU [0] [1] [(8, .pointer (some ⟨pb, 0, none⟩))] (by kernel_rfl) (by kernel_rfl) ?_
 refine L.call (f := 40) (by kernel_rfl : lookAt _ _ _ _ = some ((Op.call { callee := (Callee.value (Operand.func 40)), args := #[(Operand.tmp 8)], argTypes := #[25] }), some 9)) e40 (by kernel_rfl) (none_no pb b1 (.map (some b2)) (z) _ B110) ?_
 rintro _ w113 E114 rfl
 have hE116 := hE107.and0 E114
 have := E114.size
 have Q117 := Q108.step same E114 (by simp) no0
 have Q118 := Q109.step same E114 (by simp) no0
 have B119 := B110.eff0 E114
 have B120 := B106.eff0 E114
 have hM121 := hM111.eff E114
 refine L.done ?_
 show S _ _ _ c14_1_0_1 _ _ _ _
 refine S.condF (o := (Operand.tmp 9)) (x := c14_n6) (y := c14_n9) (by kernel_rfl) (by kernel_rfl) ?_
 refine S.skip (by kernel_rfl) ?_
 show S _ _ _ c14_1_1 _ _ _ _
 refine S.seq (x := c14_1_1_0) (y := c14_1_1_1) (by kernel_rfl) ?_
 refine S.reg (ops := o14_1_1_0) (js := [0, 1, 2, 3, 4, 5, 6, 7, 8, 9, 10, 11, 12]) (by kernel_rfl) (by kernel_rfl) ?_
 refine L.runU [0, 1, 2, 3] [4, 5, 6, 7, 8, 9, 10, 11, 12] [(12, .pointer (some ⟨pb, 0, none⟩)), (13, .pointer (some ⟨pb, 0, none⟩)), (14, .pointer (some ⟨pb, 0, none⟩)), (15, .pointer (some ⟨pb, 0, none⟩))] (by kernel_rfl) (by kernel_rfl) ?_
 refine L.val (.map (some b1)) (by kernel_rfl : lookAt _ _ _ _ = some ((Op.load 53 (Operand.tmp 15)), some 16)) (by intro c e; cases e) (rx_load 0 (.map (some b1)) (B119.cells) (by kernel_rfl) (by kernel_rfl)) ?_
 refine L.runU [5] [6, 7, 8, 9, 10, 11, 12] [(17, sv q)] (by kernel_rfl) (by kernel_rfl) ?_
 rcases hg122 : mget l1 q with _ | y123
 ·have look124 := look_none (P := Tryz.prog) (t := 53) (kt := 9) (et := 40) (zv := .agg #[sv [], sv [], .slice none 0 0, .slice none 0 0, .slice none 0 0, .slice none 0 0, .slice none 0 0, .slice none 0 0, .slice none 0 0, .slice none 0 0]) hg122 Q117 (by kernel_rfl) (by kernel_rfl) (fun _ => by kernel_rfl)
  have := Q117.lt
  refine L.val (.tuple #[.agg #[sv [], sv [], .slice none 0 0, .slice none 0 0, .slice none 0 0, .slice none 0 0, .slice none 0 0, .slice none 0 0, .slice none 0 0, .slice none 0 0], .bool false]) (by kernel_rfl : lookAt _ _ _ _ = some ((Op.lookup 53 (Operand.tmp 16) (Operand.tmp 17) Bool.true), some 18)) (by intro c e; cases e) (look124 _ _ _ _ true _ (by kernel_rfl) (by kernel_rfl) (by rfl)) ?_
  refine L.runU [7, 8, 9] [10, 11, 12] [(11, .tuple #[.agg #[sv [], sv [], .slice none 0 0, .slice none 0 0, .slice none 0 0, .slice none 0 0, .slice none 0 0, .slice none 0 0, .slice none 0 0, .slice none 0 0], .bool false]), (19, .agg #[sv [], sv [], .slice none 0 0, .slice none 0 0, .slice none 0 0, .slice none 0 0, .slice none 0 0, .slice none 0 0, .slice none 0 0, .slice none 0 0]), (20, .bool false)] (by kernel_rfl) (by kernel_rfl) ?_
  refine L.alloc [sv [], sv [], .slice none 0 0, .slice none 0 0, .slice none 0 0, .slice none 0 0, .slice none 0 0, .slice none 0 0, .slice none 0 0, .slice none 0 0] (by kernel_rfl : lookAt _ _ _ _ = some ((Op.alloc 40), some 6)) (by kernel_rfl) ?_
  intro b125 w126 hs127 hz128 E129 B130
  have hE131 := hE116.and0 E129
  have := E129.size
  have Q132 := Q117.step (nNew (fresh1 hs127) (nKeep same)) E129 (by simp) no0
  have Q133 := Q118.step (nNew (fresh1 hs127) (nKeep same)) E129 (by simp) no0
  have B134 := B119.eff0 E129
  have B135 := B120.eff0 E129
  have hM136 : Mok ([b125] ++ ([b101] ++ M)) w126 := hM121.step E129 (nNew (flt1 (b := b125) (by omega)) (nKeep same))
  refine L.store 0 [sv [], sv [], .slice none 0 0, .slice none 0 0, .slice none 0 0, .slice none 0 0, .slice none 0 0, .slice none 0 0, .slice none 0 0, .slice none 0 0] [sv [], sv [], .slice none 0 0, .slice none 0 0, .slice none 0 0, .slice none 0 0, .slice none 0 0, .slice none 0 0, .slice none 0 0, .slice none 0 0] (by kernel_rfl : lookAt _ _ _ _ = some ((Op.store 40 (Operand.tmp 6) (Operand.tmp 19)), none)) (by kernel_rfl) B130 (by kernel_rfl) (by kernel_rfl) (by kernel_rfl) (one_of_all (by kernel_rfl)) (by kernel_rfl) ?_
  intro w137 E138 hz139 B140
  have hE141 := hE131.and1 E138 (by omega)
  have := E138.size
  have Q142 := Q132.step same E138 (notin1 (by omega)) (in1 (List.mem_append_left _ (List.mem_singleton.2 rfl)))
  have Q143 := Q133.step same E138 (notin1 (by omega)) (in1 (List.mem_append_left _ (List.mem_singleton.2 rfl)))
  have B144 := B134.eff1 E138 (by omega)
  have B145 := B135.eff1 E138 (by omega)
  have hM146 := hM136.eff E138
  refine L.runU [12] [] [(7, .bool false)] (by kernel_rfl) (by kernel_rfl) ?_
  refine L.done ?_
  show S _ _ _ c14_1_1_1 _ _ _ _
  refine S.seq (x := c14_n13) (y := c14_n14) (by kernel_rfl) ?_
  refine S.reg (ops := o14_n13) (js := [0, 1, 2, 3, 4]) (by kernel_rfl) (by kernel_rfl) ?_
  refine L.val (.agg #[sv [], sv [], .slice none 0 0, .slice none 0 0, .slice none 0 0, .slice none 0 0, .slice none 0 0, .slice none 0 0, .slice none 0 0, .slice none 0 0]) (by kernel_rfl : lookAt _ _ _ _ = some ((Op.load 40 (Operand.tmp 6)), some 21)) (by intro c e; cases e) (rx_load 0 (.agg #[sv [], sv [], .slice none 0 0, .slice none 0 0, .slice none 0 0, .slice none 0 0, .slice none 0 0, .slice none 0 0, .slice none 0 0, .slice none 0 0]) (B140.cells) (by kernel_rfl) (by kernel_rfl)) ?_
  refine L.call (f := 41) (by kernel_rfl : lookAt _ _ _ _ = some ((Op.call { callee := (Callee.value (Operand.func 41)), args := #[(Operand.tmp 21)], argTypes := #[40] }), some 22)) e41 (by kernel_rfl) (copied_ok ([b125] ++ ([b101] ++ M)) [sv [], sv [], .slice none 0 0, .slice none 0 0, .slice none 0 0, .slice none 0 0, .slice none 0 0, .slice none 0 0, .slice none 0 0, .slice none 0 0] ((⟨[], [], (List.replicate 8 [])⟩ : Pg)) _ hM146 (⟨[sv []], [sv [], .slice none 0 0, .slice none 0 0, .slice none 0 0, .slice none 0 0, .slice none 0 0, .slice none 0 0, .slice none 0 0, .slice none 0 0], rfl, ⟨rfl, by (simp only [List.length_cons, List.length_nil, List.length_append, List.length_take, List.length_drop, List.length_map, List.length_replicate] <;> omega)⟩, ⟨[sv []], [.slice none 0 0, .slice none 0 0, .slice none 0 0, .slice none 0 0, .slice none 0 0, .slice none 0 0, .slice none 0 0, .slice none 0 0], rfl, ⟨rfl, by (simp only [List.length_cons, List.length_nil, List.length_append, List.length_take, List.length_drop, List.length_map, List.length_replicate] <;> omega)⟩, ⟨_, _, _, _, _, _, _, _, rfl, arr_nil⟩⟩⟩) small0) ?_
  rintro _ w150 E151 ⟨cs147, rfl, R148⟩
  obtain ⟨_, _, rfl, ⟨rfl, hl153⟩, ⟨_, _, rfl, ⟨rfl, hl154⟩, ⟨v155, v156, v157, v158, v159, v160, v161, v162, rfl, C163⟩⟩⟩ := R148
  have hE164 := hE141.and0 E151
  have := E151.size
  have Q165 := Q142.step same E151 (by simp) no0
  have Q166 := Q143.step same E151 (by simp) no0
  have B167 := B144.eff0 E151
  have B168 := B145.eff0 E151
  have B169 := B140.eff0 E151
  have hM170 := hM146.eff E151
  refine L.runU [2] [3, 4] [(23, .bool false)] (by kernel_rfl) (by kernel_rfl) ?_
  refine L.store 0 [sv (((⟨[], [], (List.replicate 8 [])⟩ : Pg)).href), sv (((⟨[], [], (List.replicate 8 [])⟩ : Pg)).uuid), v155, v156, v157, v158, v159, v160, v161, v162] [sv (((⟨[], [], (List.replicate 8 [])⟩ : Pg)).href), sv (((⟨[], [], (List.replicate 8 [])⟩ : Pg)).uuid), v155, v156, v157, v158, v159, v160, v161, v162] (by kernel_rfl : lookAt _ _ _ _ = some ((Op.store 40 (Operand.tmp 4) (Operand.tmp 22)), none)) (by kernel_rfl) B168 (by kernel_rfl) (by kernel_rfl) (by kernel_rfl) (ones_app (a := [sv (((⟨[], [], (List.replicate 8 [])⟩ : Pg)).href), sv (((⟨[], [], (List.replicate 8 [])⟩ : Pg)).uuid)]) (b := [v155, v156, v157, v158, v159, v160, v161, v162]) (one_of_all (by kernel_rfl)) (Kd.one (Kd.array 8 [] (Kd.slice Kd.str) rfl) C163)) (by kernel_rfl) ?_
  intro w171 E172 hz173 B174
  have hE175 := hE164.and1 E172 (by omega)
  have := E172.size
  have Q176 := Q165.step same E172 (notin1 (by omega)) (in1 (List.mem_append_right _ (List.mem_append_left _ (List.mem_singleton.2 rfl))))
  have Q177 := Q166.step same E172 (notin1 (by omega)) (in1 (List.mem_append_right _ (List.mem_append_left _ (List.mem_singleton.2 rfl))))
  have B178 := B167.eff1 E172 (by omega)
  have B179 := B169.eff1 E172 (by omega)
  have C180 := Kd.step (Kd.array 8 [] (Kd.slice Kd.str) rfl) C163 same E172 (in1 (List.mem_append_right _ (List.mem_append_left _ (List.mem_singleton.2 rfl))))
  have hM181 := hM170.eff E172
  refine L.runU [4] [] [(5, .bool false)] (by kernel_rfl) (by kernel_rfl) ?_
  refine L.done ?_
  show S _ _ _ c14_n14 _ _ _ _
  refine S.ret (by kernel_rfl) ?_
  show Leave _ _ _ _ _ _ _ _
  refine Leave.ret2 (x := .cell 4 40) (y := .tmp 5) (.agg #[sv (((⟨[], [], (List.replicate 8 [])⟩ : Pg)).href), sv (((⟨[], [], (List.replicate 8 [])⟩ : Pg)).uuid), v155, v156, v157, v158, v159, v160, v161, v162]) (.bool false) (by kernel_rfl) (.ofC 0 (by kernel_rfl) B174.cells (by kernel_rfl)) (.ofT (by kernel_rfl)) ?_
  have hsub182 : ∀ b, b ∈ M → b ∈ [b125] ++ ([b101] ++ M) := (sDrop (sDrop sSame))
  have hM183 : Mok (M) w171 := hM181.sub hsub182
  have F184 := Q176.sub hsub182
  have F185 := Q177.sub hsub182
  have F186 := Kd.sub (Kd.array 8 [] (Kd.slice Kd.str) rfl) C180 hsub182
  refine ⟨_, rfl, hE175, [sv (((⟨[], [], (List.replicate 8 [])⟩ : Pg)).href), sv (((⟨[], [], (List.replicate 8 [])⟩ : Pg)).uuid), v155, v156, v157, v158, v159, v160, v161, v162], ?_, ?_⟩
  ·first | rfl | (simp [*]; done)
  ·have hc : cardF l1 q = (⟨((⟨[], [], (List.replicate 8 [])⟩ : Pg)).href, ((⟨[], [], (List.replicate 8 [])⟩ : Pg)).uuid, ((⟨[], [], (List.replicate 8 [])⟩ : Pg)).shadow⟩ : Pg) := by rw [cardF, hg122] <;> rfl
   rw [hc]; exact ⟨[sv (((⟨[], [], (List.replicate 8 [])⟩ : Pg)).href)], [sv (((⟨[], [], (List.replicate 8 [])⟩ : Pg)).uuid), v155, v156, v157, v158, v159, v160, v161, v162], rfl, ⟨rfl, by omega⟩, ⟨[sv (((⟨[], [], (List.replicate 8 [])⟩ : Pg)).uuid)], [v155, v156, v157, v158, v159, v160, v161, v162], rfl, ⟨rfl, by omega⟩, ⟨_, _, _, _, _, _, _, _, rfl, F186⟩⟩⟩
 ·obtain ⟨cs188, R189, look187⟩ := look_some (P := Tryz.prog) (t := 53) (kt := 9) (et := 40) (zv := .agg #[sv [], sv [], .slice none 0 0, .slice none 0 0, .slice none 0 0, .slice none 0 0, .slice none 0 0, .slice none 0 0, .slice none 0 0, .slice none 0 0]) hg122 Q117 (by kernel_rfl) (by kernel_rfl) (fun _ => by kernel_rfl)
  obtain ⟨_, _, rfl, ⟨rfl, hl190⟩, ⟨_, _, rfl, ⟨rfl, hl191⟩, ⟨v192, v193, v194, v195, v196, v197, v198, v199, rfl, C200⟩⟩⟩ := R189
  have := Q117.lt
  refine L.val (.tuple #[.agg #[sv y123.href, sv y123.uuid, v192, v193, v194, v195, v196, v197, v198, v199], .bool true]) (by kernel_rfl : lookAt _ _ _ _ = some ((Op.lookup 53 (Operand.tmp 16) (Operand.tmp 17) Bool.true), some 18)) (by intro c e; cases e) (look187 _ _ _ _ true _ (by kernel_rfl) (by kernel_rfl) (by rfl)) ?_
  refine L.runU [7, 8, 9] [10, 11, 12] [(11, .tuple #[.agg #[sv y123.href, sv y123.uuid, v192, v193, v194, v195, v196, v197, v198, v199], .bool true]), (19, .agg #[sv y123.href, sv y123.uuid, v192, v193, v194, v195, v196, v197, v198, v199]), (20, .bool true)] (by kernel_rfl) (by kernel_rfl) ?_
  refine L.alloc [sv [], sv [], .slice none 0 0, .slice none 0 0, .slice none 0 0, .slice none 0 0, .slice none 0 0, .slice none 0 0, .slice none 0 0, .slice none 0 0] (by kernel_rfl : lookAt _ _ _ _ = some ((Op.alloc 40), some 6)) (by kernel_rfl) ?_
  intro b201 w202 hs203 hz204 E205 B206
  have hE207 := hE116.and0 E205
  have := E205.size
  have Q208 := Q117.step (nNew (fresh1 hs203) (nKeep same)) E205 (by simp) no0
  have Q209 := Q118.step (nNew (fresh1 hs203) (nKeep same)) E205 (by simp) no0
  have B210 := B119.eff0 E205
  have B211 := B120.eff0 E205
  have C212 := Kd.step (Kd.array 8 [] (Kd.slice Kd.str) rfl) C200 (nNew (fresh1 hs203) (nKeep same)) E205 no0
  have hM213 : Mok ([b201] ++ ([b101] ++ M)) w202 := hM121.step E205 (nNew (flt1 (b := b201) (by omega)) (nKeep same))
  refine L.store 0 [sv y123.href, sv y123.uuid, v192, v193, v194, v195, v196, v197, v198, v199] [sv y123.href, sv y123.uuid, v192, v193, v194, v195, v196, v197, v198, v199] (by kernel_rfl : lookAt _ _ _ _ = some ((Op.store 40 (Operand.tmp 6) (Operand.tmp 19)), none)) (by kernel_rfl) B206 (by kernel_rfl) (by kernel_rfl) (by kernel_rfl) (ones_app (a := [sv y123.href, sv y123.uuid]) (b := [v192, v193, v194, v195, v196, v197, v198, v199]) (one_of_all (by kernel_rfl)) (Kd.one (Kd.array 8 [] (Kd.slice Kd.str) rfl) C212)) (by kernel_rfl) ?_
  intro w214 E215 hz216 B217
  have hE218 := hE207.and1 E215 (by omega)
  have := E215.size
  have Q219 := Q208.step same E215 (notin1 (by omega)) (in1 (List.mem_append_left _ (List.mem_singleton.2 rfl)))
  have Q220 := Q209.step same E215 (notin1 (by omega)) (in1 (List.mem_append_left _ (List.mem_singleton.2 rfl)))
  have B221 := B210.eff1 E215 (by omega)
  have B222 := B211.eff1 E215 (by omega)
  have C223 := Kd.step (Kd.array 8 [] (Kd.slice Kd.str) rfl) C212 same E215 (in1 (List.mem_append_left _ (List.mem_singleton.2 rfl)))
  have hM224 := hM213.eff E215
  refine L.runU [12] [] [(7, .bool true)] (by kernel_rfl) (by kernel_rfl) ?_
  refine L.done ?_
  show S _ _ _ c14_1_1_1 _ _ _ _
  refine S.seq (x := c14_n13) (y := c14_n14) (by kernel_rfl) ?_
  refine S.reg (ops := o14_n13) (js := [0, 1, 2, 3, 4]) (by kernel_rfl) (by kernel_rfl) ?_
  refine L.val (.agg #[sv y123.href, sv y123.uuid, v192, v193, v194, v195, v196, v197, v198, v199]) (by kernel_rfl : lookAt _ _ _ _ = some ((Op.load 40 (Operand.tmp 6)), some 21)) (by intro c e; cases e) (rx_load 0 (.agg #[sv y123.href, sv y123.uuid, v192, v193, v194, v195, v196, v197, v198, v199]) (B217.cells) (by kernel_rfl) (by kernel_rfl)) ?_
  refine L.call (f := 41) (by kernel_rfl : lookAt _ _ _ _ = some ((Op.call { callee := (Callee.value (Operand.func 41)), args := #[(Operand.tmp 21)], argTypes := #[40] }), some 22)) e41 (by kernel_rfl) (copied_ok ([b201] ++ ([b101] ++ M)) [sv y123.href, sv y123.uuid, v192, v193, v194, v195, v196, v197, v198, v199] y123 _ hM224 (⟨[sv y123.href], [sv y123.uuid, v192, v193, v194, v195, v196, v197, v198, v199], rfl, ⟨rfl, by omega⟩, ⟨[sv y123.uuid], [v192, v193, v194, v195, v196, v197, v198, v199], rfl, ⟨rfl, by omega⟩, ⟨_, _, _, _, _, _, _, _, rfl, C223⟩⟩⟩) (hs _ _ hg122)) ?_
  rintro _ w228 E229 ⟨cs225, rfl, R226⟩
  obtain ⟨_, _, rfl, ⟨rfl, hl231⟩, ⟨_, _, rfl, ⟨rfl, hl232⟩, ⟨v233, v234, v235, v236, v237, v238, v239, v240, rfl, C241⟩⟩⟩ := R226
  have hE242 := hE218.and0 E229
  have := E229.size
  have Q243 := Q219.step same E229 (by simp) no0
  have Q244 := Q220.step same E229 (by simp) no0
  have B245 := B221.eff0 E229
  have B246 := B222.eff0 E229
  have C247 := Kd.step (Kd.array 8 [] (Kd.slice Kd.str) rfl) C223 same E229 no0
  have B248 := B217.eff0 E229
  have hM249 := hM224.eff E229
  refine L.runU [2] [3, 4] [(23, .bool true)] (by kernel_rfl) (by kernel_rfl) ?_
  refine L.store 0 [sv y123.href, sv y123.uuid, v233, v234, v235, v236, v237, v238, v239, v240] [sv y123.href, sv y123.uuid, v233, v234, v235, v236, v237, v238, v239, v240] (by kernel_rfl : lookAt _ _ _ _ = some ((Op.store 40 (Operand.tmp 4) (Operand.tmp 22)), none)) (by kernel_rfl) B246 (by kernel_rfl) (by kernel_rfl) (by kernel_rfl) (ones_app (a := [sv y123.href, sv y123.uuid]) (b := [v233, v234, v235, v236, v237, v238, v239, v240]) (one_of_all (by kernel_rfl)) (Kd.one (Kd.array 8 [] (Kd.slice Kd.str) rfl) C241)) (by kernel_rfl) ?_
  intro w250 E251 hz252 B253
  have hE254 := hE242.and1 E251 (by omega)
  have := E251.size
  have Q255 := Q243.step same E251 (notin1 (by omega)) (in1 (List.mem_append_right _ (List.mem_append_left _ (List.mem_singleton.2 rfl))))
  have Q256 := Q244.step same E251 (notin1 (by omega)) (in1 (List.mem_append_right _ (List.mem_append_left _ (List.mem_singleton.2 rfl))))
  have B257 := B245.eff1 E251 (by omega)
  have C258 := Kd.step (Kd.array 8 [] (Kd.slice Kd.str) rfl) C247 same E251 (in1 (List.mem_append_right _ (List.mem_append_left _ (List.mem_singleton.2 rfl))))
  have B259 := B248.eff1 E251 (by omega)
  have C260 := Kd.step (Kd.array 8 [] (Kd.slice Kd.str) rfl) C241 same E251 (in1 (List.mem_append_right _ (List.mem_append_left _ (List.mem_singleton.2 rfl))))
  have hM261 := hM249.eff E251
  refine L.runU [4] [] [(5, .bool true)] (by kernel_rfl) (by kernel_rfl) ?_
  refine L.done ?_
  show S _ _ _ c14_n14 _ _ _ _
  refine S.ret (by kernel_rfl) ?_
  show Leave _ _ _ _ _ _ _ _
  refine Leave.ret2 (x := .cell 4 40) (y := .tmp 5) (.agg #[sv y123.href, sv y123.uuid, v233, v234, v235, v236, v237, v238, v239, v240]) (.bool true) (by kernel_rfl) (.ofC 0 (by kernel_rfl) B253.cells (by kernel_rfl)) (.ofT (by kernel_rfl)) ?_
  have hsub262 : ∀ b, b ∈ M → b ∈ [b201] ++ ([b101] ++ M) := (sDrop (sDrop sSame))
  have hM263 : Mok (M) w250 := hM261.sub hsub262
  have F264 := Q255.sub hsub262
  have F265 := Q256.sub hsub262
  have F266 := Kd.sub (Kd.array 8 [] (Kd.slice Kd.str) rfl) C258 hsub262
  have F267 := Kd.sub (Kd.array 8 [] (Kd.slice Kd.str) rfl) C260 hsub262
  refine ⟨_, rfl, hE254, [sv y123.href, sv y123.uuid, v233, v234, v235, v236, v237, v238, v239, v240], ?_, ?_⟩
  ·first | rfl | (simp [*]; done)
  ·have hc : cardF l1 q = y123 := by rw [cardF, hg122] <;> rfl
   rw [hc]; exact ⟨[sv y123.href], [sv y123.uuid, v233, v234, v235, v236, v237, v238, v239, v240], rfl, ⟨rfl, by omega⟩, ⟨[sv y123.uuid], [v233, v234, v235, v236, v237, v238, v239, v240], rfl, ⟨rfl, by omega⟩, ⟨_, _, _, _, _, _, _, _, rfl, F267⟩⟩⟩
noncomputable def c15 : Code := bodyOf Tryz.f15
noncomputable def c15_0 : Code := kid 0 c15
noncomputable def o15_0 : Array Oper := regOps c15_0
noncomputable def c15_1 : Code := kid 1 c15
noncomputable def c15_1_0 : Code := kid 0 c15_1
noncomputable def c15_1_0_0 : Code := kid 0 c15_1_0
noncomputable def o15_1_0_0 : Array Oper := regOps c15_1_0_0
noncomputable def c15_1_0_1 : Code := kid 1 c15_1_0
noncomputable def c15_n6 : Code := kid 0 c15_1_0_1
noncomputable def c15_n9 : Code := kid 1 c15_1_0_1
noncomputable def c15_1_1 : Code := kid 1 c15_1
noncomputable def c15_1_1_0 : Code := kid 0 c15_1_1
noncomputable def o15_1_1_0 : Array Oper := regOps c15_1_1_0
noncomputable def c15_1_1_1 : Code := kid 1 c15_1_1
set_option maxHeartbeats 400000 in
theorem entry_ok (M : List Nat) (pb b1 b2 : Nat) (l1 : List (Str × Pg)) (l2 : List (Str × Str)) (z : Value) (u : Str) (w : World) (hB : Blk w pb [.map (some b1), .map (some b2), z] 59) (hp1 : pb ≠ b1) (hp2 : pb ≠ b2) (hM : Mok M w) (Q1 : MapIs Key.str kPg true M w b1 l1) (Q2 : MapIs Key.str Kd.str false M w b2 l2) (hb1 : b1 ∈ M) (hb2 : b2 ∈ M) (hne : b1 ≠ b2) (hs : ∀ q x, mget l1 q = some x → ∀ j, (x.shadow.getD j []).length ≤ 1048576) : Calls Tryz.prog 15 #[.pointer (some ⟨pb, 0, none⟩), sv u] w (RetW [] w fun v w' => ∃ cs, v = .tuple #[.agg cs.toArray, .bool (mget l1 ((mget l2 u).getD [])).isSome] ∧ kPg.R M w' cs (cardF l1 ((mget l2 u).getD []))) := by
 refine calls_of_S (n := 20) (c := c15) Tryz.func15 (by kernel_rfl) (by kernel_rfl) (Nat.le_of_ble_eq_true (by kernel_rfl)) ?_
 have := Q1.lt
 have := Q2.lt
 have := hB.lt
 have hE0 : Eff [] w w := Eff.refl _ _
 refine S.seq (x := c15_0) (y := c15_1) (by kernel_rfl) ?_
 refine S.reg (ops := o15_0) (js := [0, 1]) (by kernel_rfl) (by kernel_rfl) ?_
 refine L.alloc [sv [], sv [], .slice none 0 0, .slice none 0 0, .slice none 0 0, .slice none 0 0, .slice none 0 0, .slice none 0 0, .slice none 0 0, .slice none 0 0] (by kernel_rfl : lookAt _ _ _ _ = some ((Op.alloc 40), some 4)) (by kernel_rfl) ?_
 intro b101 w102 hs103 hz104 E105 B106
 have hE107 := hE0.and0 E105
 have := E105.size
 have Q108 := Q1.step (nNew (fresh1 hs103) same) E105 (by simp) no0
 have Q109 := Q2.step (nNew (fresh1 hs103) same) E105 (by simp) no0
 have B110 := hB.eff0 E105
 have hM111 : Mok ([b101] ++ M) w102 := hM.step E105 (nNew (flt1 (b := b101) (by omega)) same)
 refine L.runU [1] [] [(5, .bool false)] (by kernel_rfl) (by kernel_rfl) ?_
 refine L.done ?_
 show S _ _ _ c15_1 _ _ _ _
 refine S.seq (x := c15_1_0) (y := c15_1_1) (by kernel_rfl) ?_
 refine S.seq (x := c15_1_0_0) (y := c15_1_0_1) (by kernel_rfl) ?_
 refine S.reg (ops := o15_1_0_0) (js := [0, 1]) (by kernel_rfl) (by kernel_rfl) ?_
 refine L.runU [0] [1] [(6, .pointer (some ⟨pb, 0, none⟩))] (by kernel_rfl) (by kernel_rfl) ?_
 refine L.call (f := 40) (by kernel_rfl : lookAt _ _ _ _ = some ((Op.call { callee := (Callee.value (Operand.func 40)), args := #[(Operand.tmp 6)], argTypes := #[25] }), some 7)) e40 (by kernel_rfl) (none_no pb b1 (.map (some b2)) (z) _ B110) ?_
 rintro _ w113 E114 rfl
 have hE116 := hE107.and0 E114
 have := E114.size
 have Q117 := Q108.step same E114 (by simp) no0
 have Q118 := Q109.step same E114 (by simp) no0
 have B119 := B110.eff0 E114
 have B120 := B106.eff0 E114
 have hM121 := hM111.eff E114
 refine L.done ?_
 show S _ _ _ c15_1_0_1 _ _ _ _
 refine S.condF (o := (Operand.tmp 7)) (x := c15_n6) (y := c15_n9) (by kernel_rfl) (by kernel_rfl) ?_
 refine S.skip (by kernel_rfl) ?_
 show S _ _ _ c15_1_1 _ _ _ _
 refine S.seq (x := c15_1_1_0) (y := c15_1_1_1) (by kernel_rfl) ?_
 refine S.reg (ops := o15_1_1_0) (js := [0, 1, 2, 3, 4, 5, 6, 7, 8, 9, 10, 11, 12]) (by kernel_rfl) (by kernel_rfl) ?_
 refine L.runU [0, 1, 2, 3, 4] [5, 6, 7, 8, 9, 10, 11, 12] [(9, .pointer (some ⟨pb, 0, none⟩)), (10, .pointer (some ⟨pb, 0, none⟩)), (11, .pointer (some ⟨pb, 0, none⟩)), (12, .pointer (some ⟨pb, 0, none⟩)), (13, .pointer (some ⟨pb, 1, none⟩))] (by kernel_rfl) (by kernel_rfl) ?_
 refine L.val (.map (some b2)) (by kernel_rfl : lookAt _ _ _ _ = some ((Op.load 54 (Operand.tmp 13)), some 14)) (by intro c e; cases e) (rx_load 1 (.map (some b2)) (B119.cells) (by kernel_rfl) (by kernel_rfl)) ?_
 refine L.runU [6] [7, 8, 9, 10, 11, 12] [(15, sv u)] (by kernel_rfl) (by kernel_rfl) ?_
 rcases hg122 : mget l2 u with _ | y123
 ·have look124 := look_none (P := Tryz.prog) (t := 54) (kt := 9) (et := 9) (zv := sv []) hg122 Q118 (by kernel_rfl) (by kernel_rfl) (fun _ => by kernel_rfl)
  have := Q118.lt
  refine L.val (sv []) (by kernel_rfl : lookAt _ _ _ _ = some ((Op.lookup 54 (Operand.tmp 14) (Operand.tmp 15) Bool.false), some 16)) (by intro c e; cases e) (look124 _ _ _ _ false _ (by kernel_rfl) (by kernel_rfl) (by rfl)) ?_
  refine L.call (f := 14) (by kernel_rfl : lookAt _ _ _ _ = some ((Op.call { callee := (Callee.value (Operand.func 14)), args := #[(Operand.tmp 9), (Operand.tmp 16)], argTypes := #[25, 9] }), some 17)) e14 (by kernel_rfl) (card_ok ([b101] ++ M) pb b1 b2 l1 l2 (z) [] _ B119 hp1 hp2 hM121 Q117 Q118 (by simp [*]) (by simp [*]) hne hs) ?_
  rintro _ w128 E129 ⟨cs125, rfl, R126⟩
  obtain ⟨_, _, rfl, ⟨rfl, hl131⟩, ⟨_, _, rfl, ⟨rfl, hl132⟩, ⟨v133, v134, v135, v136, v137, v138, v139, v140, rfl, C141⟩⟩⟩ := R126
  have hE142 := hE116.and0 E129
  have := E129.size
  have Q143 := Q117.step same E129 (by simp) no0
  have Q144 := Q118.step same E129 (by simp) no0
  have B145 := B119.eff0 E129
  have B146 := B120.eff0 E129
  have hM147 := hM121.eff E129
  refine L.runU [9, 10] [11, 12] [(18, .agg #[sv (((cardF l1 [])).href), sv (((cardF l1 [])).uuid), v133, v134, v135, v136, v137, v138, v139, v140]), (19, .bool ((mget l1 []).isSome))] (by kernel_rfl) (by kernel_rfl) ?_
  refine L.store 0 [sv (((cardF l1 [])).href), sv (((cardF l1 [])).uuid), v133, v134, v135, v136, v137, v138, v139, v140] [sv (((cardF l1 [])).href), sv (((cardF l1 [])).uuid), v133, v134, v135, v136, v137, v138, v139, v140] (by kernel_rfl : lookAt _ _ _ _ = some ((Op.store 40 (Operand.tmp 4) (Operand.tmp 18)), none)) (by kernel_rfl) B146 (by kernel_rfl) (by kernel_rfl) (by kernel_rfl) (ones_app (a := [sv (((cardF l1 [])).href), sv (((cardF l1 [])).uuid)]) (b := [v133, v134, v135, v136, v137, v138, v139, v140]) (one_of_all (by kernel_rfl)) (Kd.one (Kd.array 8 [] (Kd.slice Kd.str) rfl) C141)) (by kernel_rfl) ?_
  intro w148 E149 hz150 B151
  have hE152 := hE142.and1 E149 (by omega)
  have := E149.size
  have Q153 := Q143.step same E149 (notin1 (by omega)) (in1 (List.mem_append_left _ (List.mem_singleton.2 rfl)))
  have Q154 := Q144.step same E149 (notin1 (by omega)) (in1 (List.mem_append_left _ (List.mem_singleton.2 rfl)))
  have B155 := B145.eff1 E149 (by omega)
  have C156 := Kd.step (Kd.array 8 [] (Kd.slice Kd.str) rfl) C141 same E149 (in1 (List.mem_append_left _ (List.mem_singleton.2 rfl)))
  have hM157 := hM147.eff E149
  refine L.runU [12] [] [(5, .bool ((mget l1 []).isSome))] (by kernel_rfl) (by kernel_rfl) ?_
  refine L.done ?_
  show S _ _ _ c15_1_1_1 _ _ _ _
  refine S.ret (by kernel_rfl) ?_
  show Leave _ _ _ _ _ _ _ _
  refine Leave.ret2 (x := .cell 4 40) (y := .tmp 5) (.agg #[sv (((cardF l1 [])).href), sv (((cardF l1 [])).uuid), v133, v134, v135, v136, v137, v138, v139, v140]) (.bool ((mget l1 []).isSome)) (by kernel_rfl) (.ofC 0 (by kernel_rfl) B151.cells (by kernel_rfl)) (.ofT (by kernel_rfl)) ?_
  have hsub158 : ∀ b, b ∈ M → b ∈ [b101] ++ M := (sDrop sSame)
  have hM159 : Mok (M) w148 := hM157.sub hsub158
  have F160 := Q153.sub hsub158
  have F161 := Q154.sub hsub158
  have F162 := Kd.sub (Kd.array 8 [] (Kd.slice Kd.str) rfl) C156 hsub158
  refine ⟨_, rfl, hE152, [sv (((cardF l1 [])).href), sv (((cardF l1 [])).uuid), v133, v134, v135, v136, v137, v138, v139, v140], ?_, ?_⟩
  ·first | rfl | (simp [*]; done)
  ·first | exact ⟨[sv (((cardF l1 [])).href)], [sv (((cardF l1 [])).uuid), v133, v134, v135, v136, v137, v138, v139, v140], rfl, ⟨rfl, by (simp; omega)⟩, ⟨[sv (((cardF l1 [])).uuid)], [v133, v134, v135, v136, v137, v138, v139, v140], rfl, ⟨rfl, by (simp; omega)⟩, ⟨_, _, _, _, _, _, _, _, rfl, F162⟩⟩⟩ | (simp only [*]; exact ⟨[sv (((cardF l1 [])).href)], [sv (((cardF l1 [])).uuid), v133, v134, v135, v136, v137, v138, v139, v140], rfl, ⟨rfl, by omega⟩, ⟨[sv (((cardF l1 [])).uuid)], [v133, v134, v135, v136, v137, v138, v139, v140], rfl, ⟨rfl, by omega⟩, ⟨_, _, _, _, _, _, _, _, rfl, F162⟩⟩⟩)
 ·obtain ⟨cs164, R165, look163⟩ := look_some (P := Tryz.prog) (t := 54) (kt := 9) (et := 9) (zv := sv []) hg122 Q118 (by kernel_rfl) (by kernel_rfl) (fun _ => by kernel_rfl)
  obtain ⟨rfl, hl166⟩ := R165
  have := Q118.lt
  refine L.val (sv y123) (by kernel_rfl : lookAt _ _ _ _ = some ((Op.lookup 54 (Operand.tmp 14) (Operand.tmp 15) Bool.false), some 16)) (by intro c e; cases e) (look163 _ _ _ _ false _ (by kernel_rfl) (by kernel_rfl) (by rfl)) ?_
  refine L.call (f := 14) (by kernel_rfl : lookAt _ _ _ _ = some ((Op.call { callee := (Callee.value (Operand.func 14)), args := #[(Operand.tmp 9), (Operand.tmp 16)], argTypes := #[25, 9] }), some 17)) e14 (by kernel_rfl) (card_ok ([b101] ++ M) pb b1 b2 l1 l2 (z) y123 _ B119 hp1 hp2 hM121 Q117 Q118 (by simp [*]) (by simp [*]) hne hs) ?_
  rintro _ w170 E171 ⟨cs167, rfl, R168⟩
  obtain ⟨_, _, rfl, ⟨rfl, hl173⟩, ⟨_, _, rfl, ⟨rfl, hl174⟩, ⟨v175, v176, v177, v178, v179, v180, v181, v182, rfl, C183⟩⟩⟩ := R168
  have hE184 := hE116.and0 E171
  have := E171.size
  have Q185 := Q117.step same E171 (by simp) no0
  have Q186 := Q118.step same E171 (by simp) no0
  have B187 := B119.eff0 E171
  have B188 := B120.eff0 E171
  have hM189 := hM121.eff E171
  refine L.runU [9, 10] [11, 12] [(18, .agg #[sv (((cardF l1 y123)).href), sv (((cardF l1 y123)).uuid), v175, v176, v177, v178, v179, v180, v181, v182]), (19, .bool ((mget l1 y123).isSome))] (by kernel_rfl) (by kernel_rfl) ?_
  refine L.store 0 [sv (((cardF l1 y123)).href), sv (((cardF l1 y123)).uuid), v175, v176, v177, v178, v179, v180, v181, v182] [sv (((cardF l1 y123)).href), sv (((cardF l1 y123)).uuid), v175, v176, v177, v178, v179, v180, v181, v182] (by kernel_rfl : lookAt _ _ _ _ = some ((Op.store 40 (Operand.tmp 4) (Operand.tmp 18)), none)) (by kernel_rfl) B188 (by kernel_rfl) (by kernel_rfl) (by kernel_rfl) (ones_app (a := [sv (((cardF l1 y123)).href), sv (((cardF l1 y123)).uuid)]) (b := [v175, v176, v177, v178, v179, v180, v181, v182]) (one_of_all (by kernel_rfl)) (Kd.one (Kd.array 8 [] (Kd.slice Kd.str) rfl) C183)) (by kernel_rfl) ?_
  intro w190 E191 hz192 B193
  have hE194 := hE184.and1 E191 (by omega)
  have := E191.size
  have Q195 := Q185.step same E191 (notin1 (by omega)) (in1 (List.mem_append_left _ (List.mem_singleton.2 rfl)))
  have Q196 := Q186.step same E191 (notin1 (by omega)) (in1 (List.mem_append_left _ (List.mem_singleton.2 rfl)))
  have B197 := B187.eff1 E191 (by omega)
  have C198 := Kd.step (Kd.array 8 [] (Kd.slice Kd.str) rfl) C183 same E191 (in1 (List.mem_append_left _ (List.mem_singleton.2 rfl)))
  have hM199 := hM189.eff E191
  refine L.runU [12] [] [(5, .bool ((mget l1 y123).isSome))] (by kernel_rfl) (by kernel_rfl) ?_
  refine L.done ?_
  show S _ _ _ c15_1_1_1 _ _ _ _
  refine S.ret (by kernel_rfl) ?_
  show Leave _ _ _ _ _ _ _ _
  refine Leave.ret2 (x := .cell 4 40) (y := .tmp 5) (.agg #[sv (((cardF l1 y123)).href), sv (((cardF l1 y123)).uuid), v175, v176, v177, v178, v179, v180, v181, v182]) (.bool ((mget l1 y123).isSome)) (by kernel_rfl) (.ofC 0 (by kernel_rfl) B193.cells (by kernel_rfl)) (.ofT (by kernel_rfl)) ?_
  have hsub200 : ∀ b, b ∈ M → b ∈ [b101] ++ M := (sDrop sSame)
  have hM201 : Mok (M) w190 := hM199.sub hsub200
  have F202 := Q195.sub hsub200
  have F203 := Q196.sub hsub200
  have F204 := Kd.sub (Kd.array 8 [] (Kd.slice Kd.str) rfl) C198 hsub200
  refine ⟨_, rfl, hE194, [sv (((cardF l1 y123)).href), sv (((cardF l1 y123)).uuid), v175, v176, v177, v178, v179, v180, v181, v182], ?_, ?_⟩
  ·first | rfl | (simp [*]; done)
  ·first | exact ⟨[sv (((cardF l1 y123)).href)], [sv (((cardF l1 y123)).uuid), v175, v176, v177, v178, v179, v180, v181, v182], rfl, ⟨rfl, by (simp; omega)⟩, ⟨[sv (((cardF l1 y123)).uuid)], [v175, v176, v177, v178, v179, v180, v181, v182], rfl, ⟨rfl, by (simp; omega)⟩, ⟨_, _, _, _, _, _, _, _, rfl, F204⟩⟩⟩ | (simp only [*]; exact ⟨[sv (((cardF l1 y123)).href)], [sv (((cardF l1 y123)).uuid), v175, v176, v177, v178, v179, v180, v181, v182], rfl, ⟨rfl, by omega⟩, ⟨[sv (((cardF l1 y123)).uuid)], [v175, v176, v177, v178, v179, v180, v181, v182], rfl, ⟨rfl, by omega⟩, ⟨_, _, _, _, _, _, _, _, rfl, F204⟩⟩⟩)
end Go.Proofs.YtjleeadiadpiaaaGreatDoor
namespace Go.Proofs.YtjleeadiadpiaaaGreatDoor
open Go Go.Fx Go.RowKit
noncomputable def c73 : Code := bodyOf Tryz.f73
noncomputable def c73_0 : Code := kid 0 c73
noncomputable def o73_0 : Array Oper := regOps c73_0
noncomputable def c73_1 : Code := kid 1 c73
noncomputable def c73_1_0 : Code := kid 0 c73_1
noncomputable def c73_1_0_0 : Code := kid 0 c73_1_0
noncomputable def o73_1_0_0 : Array Oper := regOps c73_1_0_0
noncomputable def c73_1_0_1 : Code := kid 1 c73_1_0
noncomputable def c73_n6 : Code := kid 0 c73_1_0_1
noncomputable def c73_n7 : Code := kid 0 c73_n6
noncomputable def o73_n7 : Array Oper := regOps c73_n7
noncomputable def c73_n8 : Code := kid 1 c73_n6
noncomputable def c73_n9 : Code := kid 1 c73_1_0_1
noncomputable def c73_1_1 : Code := kid 1 c73_1
noncomputable def c73_1_1_0 : Code := kid 0 c73_1_1
noncomputable def o73_1_1_0 : Array Oper := regOps c73_1_1_0
noncomputable def c73_1_1_1 : Code := kid 1 c73_1_1
set_option maxHeartbeats 400000 in
theorem cloneR_ok (M : List Nat) (a : Option Addr) (cap : Nat) (l : List Rd) (w : World) (hM : Mok M w) (h : Sl kRd M w a l) (hl : l.length ≤ 1048576) : Calls Tryz.prog 73 #[.slice a l.length cap] w (RetW [] w fun v w' => ∃ b c, v = .slice b l.length c ∧ Sl kRd M w' b l) := by
 refine calls_of_S (n := 8) (c := c73) Tryz.func73 (by kernel_rfl) (by kernel_rfl) (Nat.le_of_ble_eq_true (by kernel_rfl)) ?_
 have hE0 : Eff [] w w := Eff.refl _ _
 refine S.seq (x := c73_0) (y := c73_1) (by kernel_rfl) ?_
 refine S.reg (ops := o73_0) (js := [0]) (by kernel_rfl) (by kernel_rfl) ?_
 refine L.runU [0] [] [(2, .slice none 0 0)] (by kernel_rfl) (by kernel_rfl) ?_
 refine L.done ?_
 show S _ _ _ c73_1 _ _ _ _
 refine S.seq (x := c73_1_0) (y := c73_1_1) (by kernel_rfl) ?_
 refine S.seq (x := c73_1_0_0) (y := c73_1_0_1) (by kernel_rfl) ?_
 refine S.reg (ops := o73_1_0_0) (js := [0, 1]) (by kernel_rfl) (by kernel_rfl) ?_
 refine L.runU [0] [1] [(3, .slice a l.length cap)] (by kernel_rfl) (by kernel_rfl) ?_
 refine L.val (.bool a.isNone) (by kernel_rfl : lookAt _ _ _ _ = some ((Op.binOp BinOp.eql 29 (Operand.tmp 3) (Operand.const (Value.slice Option.none 0 0)) 29), some 4)) (by intro c e; cases e) (rx_slNil (a := a) (len := l.length) (cap := cap) (e := 88) (by kernel_rfl) (by kernel_rfl) (by kernel_rfl)) ?_
 refine L.done ?_
 show S _ _ _ c73_1_0_1 _ _ _ _
 refine S.cond (a.isNone) (o := (Operand.tmp 4)) (x := c73_n6) (y := c73_n9) (by kernel_rfl) (by kernel_rfl) (fun h101 => ?_) (fun h101 => ?_)
 ·refine S.seq (x := c73_n7) (y := c73_n8) (by kernel_rfl) ?_
  refine S.reg (ops := o73_n7) (js := [0]) (by kernel_rfl) (by kernel_rfl) ?_
  refine L.runU [0] [] [(2, .slice none 0 0)] (by kernel_rfl) (by kernel_rfl) ?_
  refine L.done ?_
  show S _ _ _ c73_n8 _ _ _ _
  refine S.ret (by kernel_rfl) ?_
  show Leave _ _ _ _ _ _ _ _
  refine Leave.ret1 (x := .tmp 2) (.slice none 0 0) (by kernel_rfl) (.ofT (by kernel_rfl)) ?_
  have hn : a = none := by simpa using ‹a.isNone = true›
  subst hn
  have hl0 := h.none_nil
  subst hl0
  exact ⟨_, rfl, hE0, _, _, rfl, Sl.nil _ _ _ _⟩
 ·refine S.skip (by kernel_rfl) ?_
  show S _ _ _ c73_1_1 _ _ _ _
  refine S.seq (x := c73_1_1_0) (y := c73_1_1_1) (by kernel_rfl) ?_
  refine S.reg (ops := o73_1_1_0) (js := [0, 1, 2, 3]) (by kernel_rfl) (by kernel_rfl) ?_
  refine L.ownEmpty kRd 88 w.heap.size (M) (by kernel_rfl : lookAt _ _ _ _ = some ((Op.buildSlice 29 0 #[]), some 5)) (by intro c e; cases e) (fun w => by kernel_rfl) hM (by omega) ?_
  intro b102 w103 hs104 hz105 E106 O107
  have hE108 := hE0.and0 E106
  have := E106.size
  have R109 := h.step (nNew (freshOb (b := b102) (n := 0) (c := 0) (by omega)) same) E106 no0
  have hM110 : Mok (ob (.slice (some ⟨b102, 0, none⟩) 0 0) ++ M) w103 := hM.step E106 (nNew (fun b hb => (O107.lt b hb).2) same)
  refine L.runU [1] [2, 3] [(6, .slice a l.length cap)] (by kernel_rfl) (by kernel_rfl) ?_
  refine L.append (K := kRd) (e := 88) (base := w.heap.size) (bytes := 32) (M := M) (v := .slice (some ⟨b102, 0, none⟩) 0 0) (xs := []) (ys := l) (a := a) (cap := cap) (by kernel_rfl : lookAt _ _ _ _ = some ((Op.call { callee := (Callee.builtin Builtin.append), args := #[(Operand.tmp 5), (Operand.tmp 6)], argTypes := #[29, 29] }), some 7)) (by kernel_rfl) (by kernel_rfl) (by kernel_rfl) (by kernel_rfl) O107 R109 (hM110.sub (sDrop sSame)) (by (simp only [List.length_cons, List.length_nil, List.length_append, List.length_take, List.length_drop, List.length_map, List.length_replicate] <;> omega)) (by omega) hE108.size ?_
  intro v111 w112 O113 E114 hat115
  obtain ⟨a116, cap117, rfl⟩ := O113.slice
  simp only [List.nil_append] at O113 hat115
  have hat118 := hatN hat115
  have hE119 := hE108.andMem E114 (memOwn O107 (Nat.le_refl _))
  have := E114.size
  have R120 := R109.step (nTurn hat118 same) E114 (fun _ h => List.mem_append_left _ (h))
  have hM121 : Mok (ob (.slice a116 ((l).length) cap117) ++ M) w112 := hM110.step E114 (nTurn (fun b hb => .inr ((fun b hb => (O113.lt b hb).2) b hb)) same)
  refine L.runU [3] [] [(2, .slice a116 ((l).length) cap117)] (by kernel_rfl) (by kernel_rfl) ?_
  refine L.done ?_
  show S _ _ _ c73_1_1_1 _ _ _ _
  refine S.ret (by kernel_rfl) ?_
  show Leave _ _ _ _ _ _ _ _
  refine Leave.ret1 (x := .tmp 2) (.slice a116 ((l).length) cap117) (by kernel_rfl) (.ofT (by kernel_rfl)) ?_
  refine ⟨_, rfl, hE119, _, _, rfl, (O113.sl (by omega)).weak (fun b hb => .inl hb)⟩
noncomputable def c46 : Code := bodyOf Tryz.f46
noncomputable def c46_0 : Code := kid 0 c46
noncomputable def o46_0 : Array Oper := regOps c46_0
noncomputable def c46_1 : Code := kid 1 c46
noncomputable def c46_1_0 : Code := kid 0 c46_1
noncomputable def o46_1_0 : Array Oper := regOps c46_1_0
noncomputable def c46_1_1 : Code := kid 1 c46_1
noncomputable def c46_1_1_0 : Code := kid 0 c46_1_1
noncomputable def o46_1_1_0 : Array Oper := regOps c46_1_1_0
noncomputable def c46_1_1_1 : Code := kid 1 c46_1_1
set_option maxHeartbeats 400000 in
theorem prom46_ok (M : List Nat) (cs : List Value) (x : Pm) (w : World) (hM : Mok M w) (h : kPm.R M w cs x) (hb : ∀ j, (x.shadow.getD j []).length ≤ 1048576) (hd : x.dn.length ≤ 1048576) : Calls Tryz.prog 46 #[.agg (cs).toArray] w (RetW [] w fun v w' => ∃ cs', v = .agg cs'.toArray ∧ kPm.R M w' cs' x) := by
 refine calls_of_S (n := 12) (c := c46) Tryz.func46 (by kernel_rfl) (by kernel_rfl) (Nat.le_of_ble_eq_true (by kernel_rfl)) ?_
 obtain ⟨_, _, rfl, ⟨rfl, hl101⟩, ⟨_, _, rfl, ⟨rfl, hl102⟩, ⟨_, _, rfl, ⟨a103, cap104, rfl, R105⟩, ⟨v106, v107, v108, v109, v110, v111, v112, v113, rfl, C114⟩⟩⟩⟩ := h
 have hE0 : Eff [] w w := Eff.refl _ _
 refine S.seq (x := c46_0) (y := c46_1) (by kernel_rfl) ?_
 refine S.reg (ops := o46_0) (js := [0, 1]) (by kernel_rfl) (by kernel_rfl) ?_
 refine L.box [sv x.href, sv x.uuid, .slice a103 x.dn.length cap104, v106, v107, v108, v109, v110, v111, v112, v113] (by kernel_rfl : lookAt _ _ _ _ = some ((Op.box 34 (Operand.tmp 0)), some 1)) (by kernel_rfl) ?_
 intro b115 w116 hs117 hz118 E119 B120
 have hE121 := hE0.and0 E119
 have := E119.size
 have R122 := R105.step (nNew (fresh1 hs117) same) E119 no0
 have C123 := Kd.step (Kd.array 8 [] (Kd.slice Kd.str) rfl) C114 (nNew (fresh1 hs117) same) E119 no0
 have hM124 : Mok ([b115] ++ M) w116 := hM.step E119 (nNew (flt1 (b := b115) (by omega)) same)
 refine L.alloc [sv [], sv [], .slice none 0 0, .slice none 0 0, .slice none 0 0, .slice none 0 0, .slice none 0 0, .slice none 0 0, .slice none 0 0, .slice none 0 0, .slice none 0 0] (by kernel_rfl : lookAt _ _ _ _ = some ((Op.alloc 34), some 2)) (by kernel_rfl) ?_
 intro b125 w126 hs127 hz128 E129 B130
 have hE131 := hE121.and0 E129
 have := E129.size
 have R132 := R122.step (nNew (fresh1 hs127) (nKeep same)) E129 no0
 have C133 := Kd.step (Kd.array 8 [] (Kd.slice Kd.str) rfl) C123 (nNew (fresh1 hs127) (nKeep same)) E129 no0
 have B134 := B120.eff0 E129
 have hM135 : Mok ([b125] ++ ([b115] ++ M)) w126 := hM124.step E129 (nNew (flt1 (b := b125) (by omega)) (nKeep same))
 refine L.done ?_
 show S _ _ _ c46_1 _ _ _ _
 refine S.seq (x := c46_1_0) (y := c46_1_1) (by kernel_rfl) ?_
 refine S.draw (ops := o46_1_0) (Eff ([b115])) 10 #[false, false, false, false, false, false, false, false, false, false] (by kernel_rfl) (by kernel_rfl) (by kernel_rfl) (by kernel_rfl) ?_
 intro w136 E137 hw138
 have hE140 := hE131.and0 E137
 have := E137.size
 have R141 := R132.step same E137 no0
 have C142 := Kd.step (Kd.array 8 [] (Kd.slice Kd.str) rfl) C133 same E137 no0
 have B143 := B134.eff0 E137
 have B144 := B130.eff0 E137
 have hM145 := hM135.eff E137
 have hS139 := Eff.refl ([b115]) w136
 refine D.take 0 (.pointer (some ⟨b115, 2, none⟩)) (some 3) #[true, false, false, false, false, false, false, false, false, false] (by kernel_rfl) (by kernel_rfl) (by kernel_rfl) (fun _ _ _ _ h => LeaveP.put h (by kernel_rfl)) (.pure (n := 12) (by kernel_rfl)) hS139 ?_
 refine D.take 3 (.pointer (some ⟨b115, 3, none⟩)) (some 6) #[true, false, false, true, false, false, false, false, false, false] (by kernel_rfl) (by kernel_rfl) (by kernel_rfl) (fun _ _ _ _ h => LeaveP.put h (by kernel_rfl)) (.pure (n := 12) (by kernel_rfl)) hS139 ?_
 refine D.all [1, 4] (by kernel_rfl) (by kernel_rfl) ⟨?_, ?_, trivial⟩
 ·refine L.val (.slice a103 x.dn.length cap104) (by kernel_rfl : lookAt _ _ _ _ = some ((Op.load 29 (Operand.tmp 3)), some 4)) (by intro c e; cases e) (rx_load 2 (.slice a103 x.dn.length cap104) (B143.cells) (by kernel_rfl) (by kernel_rfl)) ?_
  refine ⟨hS139, ?_⟩
  refine D.all [2, 4] (by kernel_rfl) (by kernel_rfl) ⟨?_, ?_, trivial⟩
  ·refine L.call (f := 73) (by kernel_rfl : lookAt _ _ _ _ = some ((Op.call { callee := (Callee.value (Operand.func 73)), args := #[(Operand.tmp 4)], argTypes := #[29] }), some 5)) e73 (by kernel_rfl) (cloneR_ok ([b125] ++ ([b115] ++ M)) a103 cap104 x.dn _ hM145 R141 (by exact hd)) ?_
   rintro _ w147 E148 ⟨b150, c151, rfl, R152⟩
   have hE153 := hE140.and0 E148
   have := E148.size
   have hS154 := hS139.and0 E148
   have R155 := R141.step same E148 no0
   have C156 := Kd.step (Kd.array 8 [] (Kd.slice Kd.str) rfl) C142 same E148 no0
   have B157 := B143.eff0 E148
   have B158 := B144.eff0 E148
   have hM159 := hM145.eff E148
   refine ⟨hS154, ?_⟩
   refine D.all [4] (by kernel_rfl) (by kernel_rfl) ⟨?_, trivial⟩
   refine L.val (.agg #[v106, v107, v108, v109, v110, v111, v112, v113]) (by kernel_rfl : lookAt _ _ _ _ = some ((Op.load 32 (Operand.tmp 6)), some 7)) (by intro c e; cases e) (rx_load 3 (.agg #[v106, v107, v108, v109, v110, v111, v112, v113]) (B157.cells) (by kernel_rfl) (by kernel_rfl)) ?_
   refine ⟨hS154, ?_⟩
   refine D.take 6 (.pointer (some ⟨b115, 2, none⟩)) (some 9) #[true, true, true, true, true, false, true, false, false, false] (by kernel_rfl) (by kernel_rfl) (by kernel_rfl) (fun _ _ _ _ h => LeaveP.put h (by kernel_rfl)) (.pure (n := 12) (by kernel_rfl)) hS154 ?_
   refine D.all [5] (by kernel_rfl) (by kernel_rfl) ⟨?_, trivial⟩
   refine L.call (f := 55) (by kernel_rfl : lookAt _ _ _ _ = some ((Op.call { callee := (Callee.value (Operand.func 55)), args := #[(Operand.tmp 7)], argTypes := #[32] }), some 8)) e55 (by kernel_rfl) (copy_ok ([b125] ++ ([b115] ++ M)) [v106, v107, v108, v109, v110, v111, v112, v113] x.shadow _ hM159 (⟨_, _, _, _, _, _, _, _, rfl, C156⟩) hb) ?_
   rintro _ w163 E164 ⟨cs160, rfl, R161⟩
   obtain ⟨v166, v167, v168, v169, v170, v171, v172, v173, rfl, C174⟩ := R161
   have hE175 := hE153.and0 E164
   have := E164.size
   have hS176 := hS154.and0 E164
   have R177 := R155.step same E164 no0
   have C178 := Kd.step (Kd.array 8 [] (Kd.slice Kd.str) rfl) C156 same E164 no0
   have B179 := B157.eff0 E164
   have B180 := B158.eff0 E164
   have R181 := R152.step same E164 no0
   have hM182 := hM159.eff E164
   refine ⟨hS176, ?_⟩
   refine D.all [7] (by kernel_rfl) (by kernel_rfl) ⟨?_, trivial⟩
   refine L.store 2 [.slice b150 x.dn.length c151] [sv x.href, sv x.uuid, .slice b150 x.dn.length c151, v106, v107, v108, v109, v110, v111, v112, v113] (by kernel_rfl : lookAt _ _ _ _ = some ((Op.store 29 (Operand.tmp 9) (Operand.tmp 5)), none)) (by kernel_rfl) B179 (by kernel_rfl) (by kernel_rfl) (by kernel_rfl) (one_of_all (by kernel_rfl)) (by kernel_rfl) ?_
   intro w183 E184 hz185 B186
   have hE187 := hE175.and1 E184 (by omega)
   have := E184.size
   have hS188 := hS176.andIn E184 (in1 (by simp))
   have R189 := R177.step same E184 (in1 (List.mem_append_right _ (List.mem_append_left _ (List.mem_singleton.2 rfl))))
   have C190 := Kd.step (Kd.array 8 [] (Kd.slice Kd.str) rfl) C178 same E184 (in1 (List.mem_append_right _ (List.mem_append_left _ (List.mem_singleton.2 rfl))))
   have B191 := B180.eff1 E184 (by omega)
   have R192 := R181.step same E184 (in1 (List.mem_append_right _ (List.mem_append_left _ (List.mem_singleton.2 rfl))))
   have C193 := Kd.step (Kd.array 8 [] (Kd.slice Kd.str) rfl) C174 same E184 (in1 (List.mem_append_right _ (List.mem_append_left _ (List.mem_singleton.2 rfl))))
   have hM194 := hM182.eff E184
   refine ⟨hS188, ?_⟩
   refine D.take 8 (.pointer (some ⟨b115, 3, none⟩)) (some 10) #[true, true, true, true, true, true, true, true, true, false] (by kernel_rfl) (by kernel_rfl) (by kernel_rfl) (fun _ _ _ _ h => LeaveP.put h (by kernel_rfl)) (.pure (n := 12) (by kernel_rfl)) hS188 ?_
   refine D.all [9] (by kernel_rfl) (by kernel_rfl) ⟨?_, trivial⟩
   refine L.store 3 [v166, v167, v168, v169, v170, v171, v172, v173] [sv x.href, sv x.uuid, .slice b150 x.dn.length c151, v166, v167, v168, v169, v170, v171, v172, v173] (by kernel_rfl : lookAt _ _ _ _ = some ((Op.store 32 (Operand.tmp 10) (Operand.tmp 8)), none)) (by kernel_rfl) B186 (by kernel_rfl) (by kernel_rfl) (by kernel_rfl) (Kd.one (Kd.array 8 [] (Kd.slice Kd.str) rfl) C193) (by kernel_rfl) ?_
   intro w195 E196 hz197 B198
   have hE199 := hE187.and1 E196 (by omega)
   have := E196.size
   have hS200 := hS188.andIn E196 (in1 (by simp))
   have R201 := R189.step same E196 (in1 (List.mem_append_right _ (List.mem_append_left _ (List.mem_singleton.2 rfl))))
   have C202 := Kd.step (Kd.array 8 [] (Kd.slice Kd.str) rfl) C190 same E196 (in1 (List.mem_append_right _ (List.mem_append_left _ (List.mem_singleton.2 rfl))))
   have B203 := B191.eff1 E196 (by omega)
   have R204 := R192.step same E196 (in1 (List.mem_append_right _ (List.mem_append_left _ (List.mem_singleton.2 rfl))))
   have C205 := Kd.step (Kd.array 8 [] (Kd.slice Kd.str) rfl) C193 same E196 (in1 (List.mem_append_right _ (List.mem_append_left _ (List.mem_singleton.2 rfl))))
   have hM206 := hM194.eff E196
   refine ⟨hS200, ?_⟩
   refine D.done _ (by kernel_rfl) ?_
   show S _ _ _ c46_1_1 _ _ _ _
   refine S.seq (x := c46_1_1_0) (y := c46_1_1_1) (by kernel_rfl) ?_
   refine S.reg (ops := o46_1_1_0) (js := [0, 1]) (by kernel_rfl) (by kernel_rfl) ?_
   refine L.val (.agg #[sv x.href, sv x.uuid, .slice b150 x.dn.length c151, v166, v167, v168, v169, v170, v171, v172, v173]) (by kernel_rfl : lookAt _ _ _ _ = some ((Op.load 34 (Operand.tmp 1)), some 11)) (by intro c e; cases e) (rx_load 0 (.agg #[sv x.href, sv x.uuid, .slice b150 x.dn.length c151, v166, v167, v168, v169, v170, v171, v172, v173]) (B198.cells) (by kernel_rfl) (by kernel_rfl)) ?_
   refine L.store 0 [sv x.href, sv x.uuid, .slice b150 x.dn.length c151, v166, v167, v168, v169, v170, v171, v172, v173] [sv x.href, sv x.uuid, .slice b150 x.dn.length c151, v166, v167, v168, v169, v170, v171, v172, v173] (by kernel_rfl : lookAt _ _ _ _ = some ((Op.store 34 (Operand.tmp 2) (Operand.tmp 11)), none)) (by kernel_rfl) B203 (by kernel_rfl) (by kernel_rfl) (by kernel_rfl) (ones_app (a := [sv x.href, sv x.uuid, .slice b150 x.dn.length c151]) (b := [v166, v167, v168, v169, v170, v171, v172, v173]) (one_of_all (by kernel_rfl)) (Kd.one (Kd.array 8 [] (Kd.slice Kd.str) rfl) C205)) (by kernel_rfl) ?_
   intro w207 E208 hz209 B210
   have hE211 := hE199.and1 E208 (by omega)
   have := E208.size
   have R212 := R201.step same E208 (in1 (List.mem_append_left _ (List.mem_singleton.2 rfl)))
   have C213 := Kd.step (Kd.array 8 [] (Kd.slice Kd.str) rfl) C202 same E208 (in1 (List.mem_append_left _ (List.mem_singleton.2 rfl)))
   have R214 := R204.step same E208 (in1 (List.mem_append_left _ (List.mem_singleton.2 rfl)))
   have C215 := Kd.step (Kd.array 8 [] (Kd.slice Kd.str) rfl) C205 same E208 (in1 (List.mem_append_left _ (List.mem_singleton.2 rfl)))
   have B216 := B198.eff1 E208 (by omega)
   have hM217 := hM206.eff E208
   refine L.done ?_
   show S _ _ _ c46_1_1_1 _ _ _ _
   refine S.ret (by kernel_rfl) ?_
   show Leave _ _ _ _ _ _ _ _
   refine Leave.ret1 (x := .cell 2 34) (.agg #[sv x.href, sv x.uuid, .slice b150 x.dn.length c151, v166, v167, v168, v169, v170, v171, v172, v173]) (by kernel_rfl) (.ofC 0 (by kernel_rfl) B210.cells (by kernel_rfl)) ?_
   have hsub218 : ∀ b, b ∈ M → b ∈ [b125] ++ ([b115] ++ M) := (sDrop (sDrop sSame))
   have hM219 : Mok (M) w207 := hM217.sub hsub218
   have F220 := R212.sub hsub218
   have F221 := Kd.sub (Kd.array 8 [] (Kd.slice Kd.str) rfl) C213 hsub218
   have F222 := R214.sub hsub218
   have F223 := Kd.sub (Kd.array 8 [] (Kd.slice Kd.str) rfl) C215 hsub218
   exact ⟨_, rfl, hE211, [sv x.href, sv x.uuid, .slice b150 x.dn.length c151, v166, v167, v168, v169, v170, v171, v172, v173], rfl, ⟨[sv x.href], [sv x.uuid, .slice b150 x.dn.length c151, v166, v167, v168, v169, v170, v171, v172, v173], rfl, ⟨rfl, by omega⟩, ⟨[sv x.uuid], [.slice b150 x.dn.length c151, v166, v167, v168, v169, v170, v171, v172, v173], rfl, ⟨rfl, by omega⟩, ⟨[.slice b150 x.dn.length c151], [v166, v167, v168, v169, v170, v171, v172, v173], rfl, ⟨_, _, rfl, F222⟩, ⟨_, _, _, _, _, _, _, _, rfl, F223⟩⟩⟩⟩⟩
  ·refine L.val (.agg #[v106, v107, v108, v109, v110, v111, v112, v113]) (by kernel_rfl : lookAt _ _ _ _ = some ((Op.load 32 (Operand.tmp 6)), some 7)) (by intro c e; cases e) (rx_load 3 (.agg #[v106, v107, v108, v109, v110, v111, v112, v113]) (B143.cells) (by kernel_rfl) (by kernel_rfl)) ?_
   refine ⟨hS139, ?_⟩
   refine D.all [2] (by kernel_rfl) (by kernel_rfl) ⟨?_, trivial⟩
   refine L.call (f := 73) (by kernel_rfl : lookAt _ _ _ _ = some ((Op.call { callee := (Callee.value (Operand.func 73)), args := #[(Operand.tmp 4)], argTypes := #[29] }), some 5)) e73 (by kernel_rfl) (cloneR_ok ([b125] ++ ([b115] ++ M)) a103 cap104 x.dn _ hM145 R141 (by exact hd)) ?_
   rintro _ w225 E226 ⟨b228, c229, rfl, R230⟩
   have hE231 := hE140.and0 E226
   have := E226.size
   have hS232 := hS139.and0 E226
   have R233 := R141.step same E226 no0
   have C234 := Kd.step (Kd.array 8 [] (Kd.slice Kd.str) rfl) C142 same E226 no0
   have B235 := B143.eff0 E226
   have B236 := B144.eff0 E226
   have hM237 := hM145.eff E226
   refine ⟨hS232, ?_⟩
   refine D.take 6 (.pointer (some ⟨b115, 2, none⟩)) (some 9) #[true, true, true, true, true, false, true, false, false, false] (by kernel_rfl) (by kernel_rfl) (by kernel_rfl) (fun _ _ _ _ h => LeaveP.put h (by kernel_rfl)) (.pure (n := 12) (by kernel_rfl)) hS232 ?_
   refine D.all [5] (by kernel_rfl) (by kernel_rfl) ⟨?_, trivial⟩
   refine L.call (f := 55) (by kernel_rfl : lookAt _ _ _ _ = some ((Op.call { callee := (Callee.value (Operand.func 55)), args := #[(Operand.tmp 7)], argTypes := #[32] }), some 8)) e55 (by kernel_rfl) (copy_ok ([b125] ++ ([b115] ++ M)) [v106, v107, v108, v109, v110, v111, v112, v113] x.shadow _ hM237 (⟨_, _, _, _, _, _, _, _, rfl, C234⟩) hb) ?_
   rintro _ w241 E242 ⟨cs238, rfl, R239⟩
   obtain ⟨v244, v245, v246, v247, v248, v249, v250, v251, rfl, C252⟩ := R239
   have hE253 := hE231.and0 E242
   have := E242.size
   have hS254 := hS232.and0 E242
   have R255 := R233.step same E242 no0
   have C256 := Kd.step (Kd.array 8 [] (Kd.slice Kd.str) rfl) C234 same E242 no0
   have B257 := B235.eff0 E242
   have B258 := B236.eff0 E242
   have R259 := R230.step same E242 no0
   have hM260 := hM237.eff E242
   refine ⟨hS254, ?_⟩
   refine D.all [7] (by kernel_rfl) (by kernel_rfl) ⟨?_, trivial⟩
   refine L.store 2 [.slice b228 x.dn.length c229] [sv x.href, sv x.uuid, .slice b228 x.dn.length c229, v106, v107, v108, v109, v110, v111, v112, v113] (by kernel_rfl : lookAt _ _ _ _ = some ((Op.store 29 (Operand.tmp 9) (Operand.tmp 5)), none)) (by kernel_rfl) B257 (by kernel_rfl) (by kernel_rfl) (by kernel_rfl) (one_of_all (by kernel_rfl)) (by kernel_rfl) ?_
   intro w261 E262 hz263 B264
   have hE265 := hE253.and1 E262 (by omega)
   have := E262.size
   have hS266 := hS254.andIn E262 (in1 (by simp))
   have R267 := R255.step same E262 (in1 (List.mem_append_right _ (List.mem_append_left _ (List.mem_singleton.2 rfl))))
   have C268 := Kd.step (Kd.array 8 [] (Kd.slice Kd.str) rfl) C256 same E262 (in1 (List.mem_append_right _ (List.mem_append_left _ (List.mem_singleton.2 rfl))))
   have B269 := B258.eff1 E262 (by omega)
   have R270 := R259.step same E262 (in1 (List.mem_append_right _ (List.mem_append_left _ (List.mem_singleton.2 rfl))))
   have C271 := Kd.step (Kd.array 8 [] (Kd.slice Kd.str) rfl) C252 same E262 (in1 (List.mem_append_right _ (List.mem_append_left _ (List.mem_singleton.2 rfl))))
   have hM272 := hM260.eff E262
   refine ⟨hS266, ?_⟩
   refine D.take 8 (.pointer (some ⟨b115, 3, none⟩)) (some 10) #[true, true, true, true, true, true, true, true, true, false] (by kernel_rfl) (by kernel_rfl) (by kernel_rfl) (fun _ _ _ _ h => LeaveP.put h (by kernel_rfl)) (.pure (n := 12) (by kernel_rfl)) hS266 ?_
   refine D.all [9] (by kernel_rfl) (by kernel_rfl) ⟨?_, trivial⟩
   refine L.store 3 [v244, v245, v246, v247, v248, v249, v250, v251] [sv x.href, sv x.uuid, .slice b228 x.dn.length c229, v244, v245, v246, v247, v248, v249, v250, v251] (by kernel_rfl : lookAt _ _ _ _ = some ((Op.store 32 (Operand.tmp 10) (Operand.tmp 8)), none)) (by kernel_rfl) B264 (by kernel_rfl) (by kernel_rfl) (by kernel_rfl) (Kd.one (Kd.array 8 [] (Kd.slice Kd.str) rfl) C271) (by kernel_rfl) ?_
   intro w273 E274 hz275 B276
   have hE277 := hE265.and1 E274 (by omega)
   have := E274.size
   have hS278 := hS266.andIn E274 (in1 (by simp))
   have R279 := R267.step same E274 (in1 (List.mem_append_right _ (List.mem_append_left _ (List.mem_singleton.2 rfl))))
   have C280 := Kd.step (Kd.array 8 [] (Kd.slice Kd.str) rfl) C268 same E274 (in1 (List.mem_append_right _ (List.mem_append_left _ (List.mem_singleton.2 rfl))))
   have B281 := B269.eff1 E274 (by omega)
   have R282 := R270.step same E274 (in1 (List.mem_append_right _ (List.mem_append_left _ (List.mem_singleton.2 rfl))))
   have C283 := Kd.step (Kd.array 8 [] (Kd.slice Kd.str) rfl) C271 same E274 (in1 (List.mem_append_right _ (List.mem_append_left _ (List.mem_singleton.2 rfl))))
   have hM284 := hM272.eff E274
   refine ⟨hS278, ?_⟩
   refine D.done _ (by kernel_rfl) ?_
   show S _ _ _ c46_1_1 _ _ _ _
   refine S.seq (x := c46_1_1_0) (y := c46_1_1_1) (by kernel_rfl) ?_
   refine S.reg (ops := o46_1_1_0) (js := [0, 1]) (by kernel_rfl) (by kernel_rfl) ?_
   refine L.val (.agg #[sv x.href, sv x.uuid, .slice b228 x.dn.length c229, v244, v245, v246, v247, v248, v249, v250, v251]) (by kernel_rfl : lookAt _ _ _ _ = some ((Op.load 34 (Operand.tmp 1)), some 11)) (by intro c e; cases e) (rx_load 0 (.agg #[sv x.href, sv x.uuid, .slice b228 x.dn.length c229, v244, v245, v246, v247, v248, v249, v250, v251]) (B276.cells) (by kernel_rfl) (by kernel_rfl)) ?_
   refine L.store 0 [sv x.href, sv x.uuid, .slice b228 x.dn.length c229, v244, v245, v246, v247, v248, v249, v250, v251] [sv x.href, sv x.uuid, .slice b228 x.dn.length c229, v244, v245, v246, v247, v248, v249, v250, v251] (by kernel_rfl : lookAt _ _ _ _ = some ((Op.store 34 (Operand.tmp 2) (Operand.tmp 11)), none)) (by kernel_rfl) B281 (by kernel_rfl) (by kernel_rfl) (by kernel_rfl) (ones_app (a := [sv x.href, sv x.uuid, .slice b228 x.dn.length c229]) (b := [v244, v245, v246, v247, v248, v249, v250, v251]) (one_of_all (by kernel_rfl)) (Kd.one (Kd.array 8 [] (Kd.slice Kd.str) rfl) C283)) (by kernel_rfl) ?_
   intro w285 E286 hz287 B288
   have hE289 := hE277.and1 E286 (by omega)
   have := E286.size
   have R290 := R279.step same E286 (in1 (List.mem_append_left _ (List.mem_singleton.2 rfl)))
   have C291 := Kd.step (Kd.array 8 [] (Kd.slice Kd.str) rfl) C280 same E286 (in1 (List.mem_append_left _ (List.mem_singleton.2 rfl)))
   have R292 := R282.step same E286 (in1 (List.mem_append_left _ (List.mem_singleton.2 rfl)))
   have C293 := Kd.step (Kd.array 8 [] (Kd.slice Kd.str) rfl) C283 same E286 (in1 (List.mem_append_left _ (List.mem_singleton.2 rfl)))
   have B294 := B276.eff1 E286 (by omega)
   have hM295 := hM284.eff E286
   refine L.done ?_
   show S _ _ _ c46_1_1_1 _ _ _ _
   refine S.ret (by kernel_rfl) ?_
   show Leave _ _ _ _ _ _ _ _
   refine Leave.ret1 (x := .cell 2 34) (.agg #[sv x.href, sv x.uuid, .slice b228 x.dn.length c229, v244, v245, v246, v247, v248, v249, v250, v251]) (by kernel_rfl) (.ofC 0 (by kernel_rfl) B288.cells (by kernel_rfl)) ?_
   have hsub296 : ∀ b, b ∈ M → b ∈ [b125] ++ ([b115] ++ M) := (sDrop (sDrop sSame))
   have hM297 : Mok (M) w285 := hM295.sub hsub296
   have F298 := R290.sub hsub296
   have F299 := Kd.sub (Kd.array 8 [] (Kd.slice Kd.str) rfl) C291 hsub296
   have F300 := R292.sub hsub296
   have F301 := Kd.sub (Kd.array 8 [] (Kd.slice Kd.str) rfl) C293 hsub296
   exact ⟨_, rfl, hE289, [sv x.href, sv x.uuid, .slice b228 x.dn.length c229, v244, v245, v246, v247, v248, v249, v250, v251], rfl, ⟨[sv x.href], [sv x.uuid, .slice b228 x.dn.length c229, v244, v245, v246, v247, v248, v249, v250, v251], rfl, ⟨rfl, by omega⟩, ⟨[sv x.uuid], [.slice b228 x.dn.length c229, v244, v245, v246, v247, v248, v249, v250, v251], rfl, ⟨rfl, by omega⟩, ⟨[.slice b228 x.dn.length c229], [v244, v245, v246, v247, v248, v249, v250, v251], rfl, ⟨_, _, rfl, F300⟩, ⟨_, _, _, _, _, _, _, _, rfl, F301⟩⟩⟩⟩⟩
 ·refine L.val (.agg #[v106, v107, v108, v109, v110, v111, v112, v113]) (by kernel_rfl : lookAt _ _ _ _ = some ((Op.load 32 (Operand.tmp 6)), some 7)) (by intro c e; cases e) (rx_load 3 (.agg #[v106, v107, v108, v109, v110, v111, v112, v113]) (B143.cells) (by kernel_rfl) (by kernel_rfl)) ?_
  refine ⟨hS139, ?_⟩
  refine D.all [1] (by kernel_rfl) (by kernel_rfl) ⟨?_, trivial⟩
  refine L.val (.slice a103 x.dn.length cap104) (by kernel_rfl : lookAt _ _ _ _ = some ((Op.load 29 (Operand.tmp 3)), some 4)) (by intro c e; cases e) (rx_load 2 (.slice a103 x.dn.length cap104) (B143.cells) (by kernel_rfl) (by kernel_rfl)) ?_
  refine ⟨hS139, ?_⟩
  refine D.all [2] (by kernel_rfl) (by kernel_rfl) ⟨?_, trivial⟩
  refine L.call (f := 73) (by kernel_rfl : lookAt _ _ _ _ = some ((Op.call { callee := (Callee.value (Operand.func 73)), args := #[(Operand.tmp 4)], argTypes := #[29] }), some 5)) e73 (by kernel_rfl) (cloneR_ok ([b125] ++ ([b115] ++ M)) a103 cap104 x.dn _ hM145 R141 (by exact hd)) ?_
  rintro _ w303 E304 ⟨b306, c307, rfl, R308⟩
  have hE309 := hE140.and0 E304
  have := E304.size
  have hS310 := hS139.and0 E304
  have R311 := R141.step same E304 no0
  have C312 := Kd.step (Kd.array 8 [] (Kd.slice Kd.str) rfl) C142 same E304 no0
  have B313 := B143.eff0 E304
  have B314 := B144.eff0 E304
  have hM315 := hM145.eff E304
  refine ⟨hS310, ?_⟩
  refine D.take 6 (.pointer (some ⟨b115, 2, none⟩)) (some 9) #[true, true, true, true, true, false, true, false, false, false] (by kernel_rfl) (by kernel_rfl) (by kernel_rfl) (fun _ _ _ _ h => LeaveP.put h (by kernel_rfl)) (.pure (n := 12) (by kernel_rfl)) hS310 ?_
  refine D.all [5] (by kernel_rfl) (by kernel_rfl) ⟨?_, trivial⟩
  refine L.call (f := 55) (by kernel_rfl : lookAt _ _ _ _ = some ((Op.call { callee := (Callee.value (Operand.func 55)), args := #[(Operand.tmp 7)], argTypes := #[32] }), some 8)) e55 (by kernel_rfl) (copy_ok ([b125] ++ ([b115] ++ M)) [v106, v107, v108, v109, v110, v111, v112, v113] x.shadow _ hM315 (⟨_, _, _, _, _, _, _, _, rfl, C312⟩) hb) ?_
  rintro _ w319 E320 ⟨cs316, rfl, R317⟩
  obtain ⟨v322, v323, v324, v325, v326, v327, v328, v329, rfl, C330⟩ := R317
  have hE331 := hE309.and0 E320
  have := E320.size
  have hS332 := hS310.and0 E320
  have R333 := R311.step same E320 no0
  have C334 := Kd.step (Kd.array 8 [] (Kd.slice Kd.str) rfl) C312 same E320 no0
  have B335 := B313.eff0 E320
  have B336 := B314.eff0 E320
  have R337 := R308.step same E320 no0
  have hM338 := hM315.eff E320
  refine ⟨hS332, ?_⟩
  refine D.all [7] (by kernel_rfl) (by kernel_rfl) ⟨?_, trivial⟩
  refine L.store 2 [.slice b306 x.dn.length c307] [sv x.href, sv x.uuid, .slice b306 x.dn.length c307, v106, v107, v108, v109, v110, v111, v112, v113] (by kernel_rfl : lookAt _ _ _ _ = some ((Op.store 29 (Operand.tmp 9) (Operand.tmp 5)), none)) (by kernel_rfl) B335 (by kernel_rfl) (by kernel_rfl) (by kernel_rfl) (one_of_all (by kernel_rfl)) (by kernel_rfl) ?_
  intro w339 E340 hz341 B342
  have hE343 := hE331.and1 E340 (by omega)
  have := E340.size
  have hS344 := hS332.andIn E340 (in1 (by simp))
  have R345 := R333.step same E340 (in1 (List.mem_append_right _ (List.mem_append_left _ (List.mem_singleton.2 rfl))))
  have C346 := Kd.step (Kd.array 8 [] (Kd.slice Kd.str) rfl) C334 same E340 (in1 (List.mem_append_right _ (List.mem_append_left _ (List.mem_singleton.2 rfl))))
  have B347 := B336.eff1 E340 (by omega)
  have R348 := R337.step same E340 (in1 (List.mem_append_right _ (List.mem_append_left _ (List.mem_singleton.2 rfl))))
  have C349 := Kd.step (Kd.array 8 [] (Kd.slice Kd.str) rfl) C330 same E340 (in1 (List.mem_append_right _ (List.mem_append_left _ (List.mem_singleton.2 rfl))))
  have hM350 := hM338.eff E340
  refine ⟨hS344, ?_⟩
  refine D.take 8 (.pointer (some ⟨b115, 3, none⟩)) (some 10) #[true, true, true, true, true, true, true, true, true, false] (by kernel_rfl) (by kernel_rfl) (by kernel_rfl) (fun _ _ _ _ h => LeaveP.put h (by kernel_rfl)) (.pure (n := 12) (by kernel_rfl)) hS344 ?_
  refine D.all [9] (by kernel_rfl) (by kernel_rfl) ⟨?_, trivial⟩
  refine L.store 3 [v322, v323, v324, v325, v326, v327, v328, v329] [sv x.href, sv x.uuid, .slice b306 x.dn.length c307, v322, v323, v324, v325, v326, v327, v328, v329] (by kernel_rfl : lookAt _ _ _ _ = some ((Op.store 32 (Operand.tmp 10) (Operand.tmp 8)), none)) (by kernel_rfl) B342 (by kernel_rfl) (by kernel_rfl) (by kernel_rfl) (Kd.one (Kd.array 8 [] (Kd.slice Kd.str) rfl) C349) (by kernel_rfl) ?_
  intro w351 E352 hz353 B354
  have hE355 := hE343.and1 E352 (by omega)
  have := E352.size
  have hS356 := hS344.andIn E352 (in1 (by simp))
  have R357 := R345.step same E352 (in1 (List.mem_append_right _ (List.mem_append_left _ (List.mem_singleton.2 rfl))))
  have C358 := Kd.step (Kd.array 8 [] (Kd.slice Kd.str) rfl) C346 same E352 (in1 (List.mem_append_right _ (List.mem_append_left _ (List.mem_singleton.2 rfl))))
  have B359 := B347.eff1 E352 (by omega)
  have R360 := R348.step same E352 (in1 (List.mem_append_right _ (List.mem_append_left _ (List.mem_singleton.2 rfl))))
  have C361 := Kd.step (Kd.array 8 [] (Kd.slice Kd.str) rfl) C349 same E352 (in1 (List.mem_append_right _ (List.mem_append_left _ (List.mem_singleton.2 rfl))))
  have hM362 := hM350.eff E352
  refine ⟨hS356, ?_⟩
  refine D.done _ (by kernel_rfl) ?_
  show S _ _ _ c46_1_1 _ _ _ _
  refine S.seq (x := c46_1_1_0) (y := c46_1_1_1) (by kernel_rfl) ?_
  refine S.reg (ops := o46_1_1_0) (js := [0, 1]) (by kernel_rfl) (by kernel_rfl) ?_
  refine L.val (.agg #[sv x.href, sv x.uuid, .slice b306 x.dn.length c307, v322, v323, v324, v325, v326, v327, v328, v329]) (by kernel_rfl : lookAt _ _ _ _ = some ((Op.load 34 (Operand.tmp 1)), some 11)) (by intro c e; cases e) (rx_load 0 (.agg #[sv x.href, sv x.uuid, .slice b306 x.dn.length c307, v322, v323, v324, v325, v326, v327, v328, v329]) (B354.cells) (by kernel_rfl) (by kernel_rfl)) ?_
  refine L.store 0 [sv x.href, sv x.uuid, .slice b306 x.dn.length c307, v322, v323, v324, v325, v326, v327, v328, v329] [sv x.href, sv x.uuid, .slice b306 x.dn.length c307, v322, v323, v324, v325, v326, v327, v328, v329] (by kernel_rfl : lookAt _ _ _ _ = some ((Op.store 34 (Operand.tmp 2) (Operand.tmp 11)), none)) (by kernel_rfl) B359 (by kernel_rfl) (by kernel_rfl) (by kernel_rfl) (ones_app (a := [sv x.href, sv x.uuid, .slice b306 x.dn.length c307]) (b := [v322, v323, v324, v325, v326, v327, v328, v329]) (one_of_all (by kernel_rfl)) (Kd.one (Kd.array 8 [] (Kd.slice Kd.str) rfl) C361)) (by kernel_rfl) ?_
  intro w363 E364 hz365 B366
  have hE367 := hE355.and1 E364 (by omega)
  have := E364.size
  have R368 := R357.step same E364 (in1 (List.mem_append_left _ (List.mem_singleton.2 rfl)))
  have C369 := Kd.step (Kd.array 8 [] (Kd.slice Kd.str) rfl) C358 same E364 (in1 (List.mem_append_left _ (List.mem_singleton.2 rfl)))
  have R370 := R360.step same E364 (in1 (List.mem_append_left _ (List.mem_singleton.2 rfl)))
  have C371 := Kd.step (Kd.array 8 [] (Kd.slice Kd.str) rfl) C361 same E364 (in1 (List.mem_append_left _ (List.mem_singleton.2 rfl)))
  have B372 := B354.eff1 E364 (by omega)
  have hM373 := hM362.eff E364
  refine L.done ?_
  show S _ _ _ c46_1_1_1 _ _ _ _
  refine S.ret (by kernel_rfl) ?_
  show Leave _ _ _ _ _ _ _ _
  refine Leave.ret1 (x := .cell 2 34) (.agg #[sv x.href, sv x.uuid, .slice b306 x.dn.length c307, v322, v323, v324, v325, v326, v327, v328, v329]) (by kernel_rfl) (.ofC 0 (by kernel_rfl) B366.cells (by kernel_rfl)) ?_
  have hsub374 : ∀ b, b ∈ M → b ∈ [b125] ++ ([b115] ++ M) := (sDrop (sDrop sSame))
  have hM375 : Mok (M) w363 := hM373.sub hsub374
  have F376 := R368.sub hsub374
  have F377 := Kd.sub (Kd.array 8 [] (Kd.slice Kd.str) rfl) C369 hsub374
  have F378 := R370.sub hsub374
  have F379 := Kd.sub (Kd.array 8 [] (Kd.slice Kd.str) rfl) C371 hsub374
  exact ⟨_, rfl, hE367, [sv x.href, sv x.uuid, .slice b306 x.dn.length c307, v322, v323, v324, v325, v326, v327, v328, v329], rfl, ⟨[sv x.href], [sv x.uuid, .slice b306 x.dn.length c307, v322, v323, v324, v325, v326, v327, v328, v329], rfl, ⟨rfl, by omega⟩, ⟨[sv x.uuid], [.slice b306 x.dn.length c307, v322, v323, v324, v325, v326, v327, v328, v329], rfl, ⟨rfl, by omega⟩, ⟨[.slice b306 x.dn.length c307], [v322, v323, v324, v325, v326, v327, v328, v329], rfl, ⟨_, _, rfl, F378⟩, ⟨_, _, _, _, _, _, _, _, rfl, F379⟩⟩⟩⟩⟩
end Go.Proofs.YtjleeadiadpiaaaGreatDoor
namespace Go.Proofs.YtjleeadiadpiaaaGreatDoor
open Go Go.Fx Go.RowKit
theorem either_dn {x : Pm} (h : eitherF x = true) : x.dn.length ≤ 1048576 := by
 simp only [eitherF, dnF, Bool.or_eq_true, Bool.and_eq_true, decide_eq_true_eq] at h
 omega
end Go.Proofs.YtjleeadiadpiaaaGreatDoor
namespace Go.Proofs.YtjleeadiadpiaaaGreatDoor
open Go Go.Fx Go.RowKit
noncomputable def c23 : Code := bodyOf Tryz.f23
noncomputable def c23_0 : Code := kid 0 c23
noncomputable def o23_0 : Array Oper := regOps c23_0
noncomputable def c23_1 : Code := kid 1 c23
noncomputable def c23_1_0 : Code := kid 0 c23_1
noncomputable def c23_1_0_0 : Code := kid 0 c23_1_0
noncomputable def o23_1_0_0 : Array Oper := regOps c23_1_0_0
noncomputable def c23_1_0_1 : Code := kid 1 c23_1_0
noncomputable def c23_n6 : Code := kid 0 c23_1_0_1
noncomputable def c23_n7 : Code := kid 0 c23_n6
noncomputable def o23_n7 : Array Oper := regOps c23_n7
noncomputable def c23_n8 : Code := kid 1 c23_n6
noncomputable def c23_n9 : Code := kid 1 c23_1_0_1
noncomputable def c23_1_1 : Code := kid 1 c23_1
set_option maxHeartbeats 400000 in
theorem promised_none (pb b1 : Nat) (y : Value) (w : World) (hB : Blk w pb [.map (some b1), y, .pointer none] 59) : Calls Tryz.prog 23 #[.pointer (some ⟨pb, 0, none⟩)] w (RetW [] w fun v w' => v = .tuple #[.agg #[sv [], sv [], .slice none 0 0, .slice none 0 0, .slice none 0 0, .slice none 0 0, .slice none 0 0, .slice none 0 0, .slice none 0 0, .slice none 0 0, .slice none 0 0], .bool false]) := by
 refine calls_of_S (n := 21) (c := c23) Tryz.func23 (by kernel_rfl) (by kernel_rfl) (Nat.le_of_ble_eq_true (by kernel_rfl)) ?_
 have := hB.lt
 have hE0 : Eff [] w w := Eff.refl _ _
 refine S.seq (x := c23_0) (y := c23_1) (by kernel_rfl) ?_
 refine S.reg (ops := o23_0) (js := [0, 1]) (by kernel_rfl) (by kernel_rfl) ?_
 refine L.alloc [sv [], sv [], .slice none 0 0, .slice none 0 0, .slice none 0 0, .slice none 0 0, .slice none 0 0, .slice none 0 0, .slice none 0 0, .slice none 0 0, .slice none 0 0] (by kernel_rfl : lookAt _ _ _ _ = some ((Op.alloc 34), some 2)) (by kernel_rfl) ?_
 intro b101 w102 hs103 hz104 E105 B106
 have hE107 := hE0.and0 E105
 have := E105.size
 have B108 := hB.eff0 E105
 refine L.runU [1] [] [(3, .bool false)] (by kernel_rfl) (by kernel_rfl) ?_
 refine L.done ?_
 show S _ _ _ c23_1 _ _ _ _
 refine S.seq (x := c23_1_0) (y := c23_1_1) (by kernel_rfl) ?_
 refine S.seq (x := c23_1_0_0) (y := c23_1_0_1) (by kernel_rfl) ?_
 refine S.reg (ops := o23_1_0_0) (js := [0, 1, 2, 3, 4, 5, 6, 7, 8]) (by kernel_rfl) (by kernel_rfl) ?_
 refine L.runU [0] [1, 2, 3, 4, 5, 6, 7, 8] [(4, .pointer (some ⟨pb, 0, none⟩))] (by kernel_rfl) (by kernel_rfl) ?_
 refine L.call (f := 40) (by kernel_rfl : lookAt _ _ _ _ = some ((Op.call { callee := (Callee.value (Operand.func 40)), args := #[(Operand.tmp 4)], argTypes := #[25] }), some 5)) e40 (by kernel_rfl) (none_no pb b1 (y) (.pointer none) _ B108) ?_
 rintro _ w110 E111 rfl
 have hE113 := hE107.and0 E111
 have := E111.size
 have B114 := B108.eff0 E111
 have B115 := B106.eff0 E111
 refine L.runU [2, 3, 4, 5] [6, 7, 8] [(6, .bool false), (7, .pointer (some ⟨pb, 0, none⟩)), (8, .pointer (some ⟨pb, 0, none⟩)), (9, .pointer (some ⟨pb, 2, none⟩))] (by kernel_rfl) (by kernel_rfl) ?_
 refine L.val (.pointer none) (by kernel_rfl : lookAt _ _ _ _ = some ((Op.load 57 (Operand.tmp 9)), some 10)) (by intro c e; cases e) (rx_load 2 (.pointer none) (B114.cells) (by kernel_rfl) (by kernel_rfl)) ?_
 refine L.runU [7, 8] [] [(11, .bool true), (12, .bool true)] (by kernel_rfl) (by kernel_rfl) ?_
 refine L.done ?_
 show S _ _ _ c23_1_0_1 _ _ _ _
 refine S.condT (o := (Operand.tmp 12)) (x := c23_n6) (y := c23_n9) (by kernel_rfl) (by kernel_rfl) ?_
 refine S.seq (x := c23_n7) (y := c23_n8) (by kernel_rfl) ?_
 refine S.reg (ops := o23_n7) (js := [0, 1, 2]) (by kernel_rfl) (by kernel_rfl) ?_
 refine L.runU [0] [1, 2] [(13, .agg #[sv [], sv [], .slice none 0 0, .slice none 0 0, .slice none 0 0, .slice none 0 0, .slice none 0 0, .slice none 0 0, .slice none 0 0, .slice none 0 0, .slice none 0 0])] (by kernel_rfl) (by kernel_rfl) ?_
 refine L.store 0 [sv [], sv [], .slice none 0 0, .slice none 0 0, .slice none 0 0, .slice none 0 0, .slice none 0 0, .slice none 0 0, .slice none 0 0, .slice none 0 0, .slice none 0 0] [sv [], sv [], .slice none 0 0, .slice none 0 0, .slice none 0 0, .slice none 0 0, .slice none 0 0, .slice none 0 0, .slice none 0 0, .slice none 0 0, .slice none 0 0] (by kernel_rfl : lookAt _ _ _ _ = some ((Op.store 34 (Operand.tmp 2) (Operand.tmp 13)), none)) (by kernel_rfl) B115 (by kernel_rfl) (by kernel_rfl) (by kernel_rfl) (one_of_all (by kernel_rfl)) (by kernel_rfl) ?_
 intro w116 E117 hz118 B119
 have hE120 := hE113.and1 E117 (by omega)
 have := E117.size
 have B121 := B114.eff1 E117 (by omega)
 refine L.runU [2] [] [(3, .bool false)] (by kernel_rfl) (by kernel_rfl) ?_
 refine L.done ?_
 show S _ _ _ c23_n8 _ _ _ _
 refine S.ret (by kernel_rfl) ?_
 show Leave _ _ _ _ _ _ _ _
 refine Leave.ret2 (x := .cell 2 34) (y := .tmp 3) (.agg #[sv [], sv [], .slice none 0 0, .slice none 0 0, .slice none 0 0, .slice none 0 0, .slice none 0 0, .slice none 0 0, .slice none 0 0, .slice none 0 0, .slice none 0 0]) (.bool false) (by kernel_rfl) (.ofC 0 (by kernel_rfl) B119.cells (by kernel_rfl)) (.ofT (by kernel_rfl)) ?_
 refine ⟨_, rfl, hE120, ?_⟩
 rfl
noncomputable def c23b : Code := bodyOf Tryz.f23
noncomputable def c23b_0 : Code := kid 0 c23b
noncomputable def o23b_0 : Array Oper := regOps c23b_0
noncomputable def c23b_1 : Code := kid 1 c23b
noncomputable def c23b_1_0 : Code := kid 0 c23b_1
noncomputable def c23b_1_0_0 : Code := kid 0 c23b_1_0
noncomputable def o23b_1_0_0 : Array Oper := regOps c23b_1_0_0
noncomputable def c23b_1_0_1 : Code := kid 1 c23b_1_0
noncomputable def c23b_n6 : Code := kid 0 c23b_1_0_1
noncomputable def c23b_n9 : Code := kid 1 c23b_1_0_1
noncomputable def c23b_1_1 : Code := kid 1 c23b_1
noncomputable def c23b_1_1_0 : Code := kid 0 c23b_1_1
noncomputable def o23b_1_1_0 : Array Oper := regOps c23b_1_1_0
noncomputable def c23b_1_1_1 : Code := kid 1 c23b_1_1
set_option maxHeartbeats 400000 in
theorem promised_some (M : List Nat) (pb b1 : Nat) (y : Value) (b3 : Nat) (cs : List Value) (x : Pm) (w : World) (hM : Mok M w) (hB : Blk w pb [.map (some b1), y, .pointer (some ⟨b3, 0, none⟩)] 59) (h : kPm.R M w cs x) (hB3 : Blk w b3 cs 34) (hb : ∀ j, (x.shadow.getD j []).length ≤ 1048576) (hd : x.dn.length ≤ 1048576) : Calls Tryz.prog 23 #[.pointer (some ⟨pb, 0, none⟩)] w (RetW [] w fun v w' => ∃ cs', v = .tuple #[.agg cs'.toArray, .bool true] ∧ kPm.R M w' cs' x) := by
 refine calls_of_S (n := 21) (c := c23b) Tryz.func23 (by kernel_rfl) (by kernel_rfl) (Nat.le_of_ble_eq_true (by kernel_rfl)) ?_
 have := hB.lt
 have := hB3.lt
 obtain ⟨_, _, rfl, ⟨rfl, hl101⟩, ⟨_, _, rfl, ⟨rfl, hl102⟩, ⟨_, _, rfl, ⟨a103, cap104, rfl, R105⟩, ⟨v106, v107, v108, v109, v110, v111, v112, v113, rfl, C114⟩⟩⟩⟩ := h
 have hE0 : Eff [] w w := Eff.refl _ _
 refine S.seq (x := c23b_0) (y := c23b_1) (by kernel_rfl) ?_
 refine S.reg (ops := o23b_0) (js := [0, 1]) (by kernel_rfl) (by kernel_rfl) ?_
 refine L.alloc [sv [], sv [], .slice none 0 0, .slice none 0 0, .slice none 0 0, .slice none 0 0, .slice none 0 0, .slice none 0 0, .slice none 0 0, .slice none 0 0, .slice none 0 0] (by kernel_rfl : lookAt _ _ _ _ = some ((Op.alloc 34), some 2)) (by kernel_rfl) ?_
 intro b115 w116 hs117 hz118 E119 B120
 have hE121 := hE0.and0 E119
 have := E119.size
 have B122 := hB.eff0 E119
 have R123 := R105.step (nNew (fresh1 hs117) same) E119 no0
 have C124 := Kd.step (Kd.array 8 [] (Kd.slice Kd.str) rfl) C114 (nNew (fresh1 hs117) same) E119 no0
 have B125 := hB3.eff0 E119
 have hM126 : Mok ([b115] ++ M) w116 := hM.step E119 (nNew (flt1 (b := b115) (by omega)) same)
 refine L.runU [1] [] [(3, .bool false)] (by kernel_rfl) (by kernel_rfl) ?_
 refine L.done ?_
 show S _ _ _ c23b_1 _ _ _ _
 refine S.seq (x := c23b_1_0) (y := c23b_1_1) (by kernel_rfl) ?_
 refine S.seq (x := c23b_1_0_0) (y := c23b_1_0_1) (by kernel_rfl) ?_
 refine S.reg (ops := o23b_1_0_0) (js := [0, 1, 2, 3, 4, 5, 6, 7, 8]) (by kernel_rfl) (by kernel_rfl) ?_
 refine L.runU [0] [1, 2, 3, 4, 5, 6, 7, 8] [(4, .pointer (some ⟨pb, 0, none⟩))] (by kernel_rfl) (by kernel_rfl) ?_
 refine L.call (f := 40) (by kernel_rfl : lookAt _ _ _ _ = some ((Op.call { callee := (Callee.value (Operand.func 40)), args := #[(Operand.tmp 4)], argTypes := #[25] }), some 5)) e40 (by kernel_rfl) (none_no pb b1 (y) (.pointer (some ⟨b3, 0, none⟩)) _ B122) ?_
 rintro _ w128 E129 rfl
 have hE131 := hE121.and0 E129
 have := E129.size
 have B132 := B122.eff0 E129
 have R133 := R123.step same E129 no0
 have C134 := Kd.step (Kd.array 8 [] (Kd.slice Kd.str) rfl) C124 same E129 no0
 have B135 := B125.eff0 E129
 have B136 := B120.eff0 E129
 have hM137 := hM126.eff E129
 refine L.runU [2, 3, 4, 5] [6, 7, 8] [(6, .bool false), (7, .pointer (some ⟨pb, 0, none⟩)), (8, .pointer (some ⟨pb, 0, none⟩)), (9, .pointer (some ⟨pb, 2, none⟩))] (by kernel_rfl) (by kernel_rfl) ?_
 refine L.val (.pointer (some ⟨b3, 0, none⟩)) (by kernel_rfl : lookAt _ _ _ _ = some ((Op.load 57 (Operand.tmp 9)), some 10)) (by intro c e; cases e) (rx_load 2 (.pointer (some ⟨b3, 0, none⟩)) (B132.cells) (by kernel_rfl) (by kernel_rfl)) ?_
 refine L.runU [7, 8] [] [(11, .bool false), (12, .bool false)] (by kernel_rfl) (by kernel_rfl) ?_
 refine L.done ?_
 show S _ _ _ c23b_1_0_1 _ _ _ _
 refine S.condF (o := (Operand.tmp 12)) (x := c23b_n6) (y := c23b_n9) (by kernel_rfl) (by kernel_rfl) ?_
 refine S.skip (by kernel_rfl) ?_
 show S _ _ _ c23b_1_1 _ _ _ _
 refine S.seq (x := c23b_1_1_0) (y := c23b_1_1_1) (by kernel_rfl) ?_
 refine S.reg (ops := o23b_1_1_0) (js := [0, 1, 2, 3, 4, 5, 6, 7, 8]) (by kernel_rfl) (by kernel_rfl) ?_
 refine L.runU [0, 1, 2] [3, 4, 5, 6, 7, 8] [(14, .pointer (some ⟨pb, 0, none⟩)), (15, .pointer (some ⟨pb, 0, none⟩)), (16, .pointer (some ⟨pb, 2, none⟩))] (by kernel_rfl) (by kernel_rfl) ?_
 refine L.val (.pointer (some ⟨b3, 0, none⟩)) (by kernel_rfl : lookAt _ _ _ _ = some ((Op.load 57 (Operand.tmp 16)), some 17)) (by intro c e; cases e) (rx_load 2 (.pointer (some ⟨b3, 0, none⟩)) (B132.cells) (by kernel_rfl) (by kernel_rfl)) ?_
 refine L.runU [4] [5, 6, 7, 8] [(18, .pointer (some ⟨b3, 0, none⟩))] (by kernel_rfl) (by kernel_rfl) ?_
 refine L.val (.agg #[sv x.href, sv x.uuid, .slice a103 x.dn.length cap104, v106, v107, v108, v109, v110, v111, v112, v113]) (by kernel_rfl : lookAt _ _ _ _ = some ((Op.load 34 (Operand.tmp 18)), some 19)) (by intro c e; cases e) (rx_load 0 (.agg #[sv x.href, sv x.uuid, .slice a103 x.dn.length cap104, v106, v107, v108, v109, v110, v111, v112, v113]) (B135.cells) (by kernel_rfl) (by kernel_rfl)) ?_
 refine L.call (f := 46) (by kernel_rfl : lookAt _ _ _ _ = some ((Op.call { callee := (Callee.value (Operand.func 46)), args := #[(Operand.tmp 19)], argTypes := #[34] }), some 20)) e46 (by kernel_rfl) (prom46_ok ([b115] ++ M) [sv x.href, sv x.uuid, .slice a103 x.dn.length cap104, v106, v107, v108, v109, v110, v111, v112, v113] x _ hM137 (⟨[sv x.href], [sv x.uuid, .slice a103 x.dn.length cap104, v106, v107, v108, v109, v110, v111, v112, v113], rfl, ⟨rfl, by omega⟩, ⟨[sv x.uuid], [.slice a103 x.dn.length cap104, v106, v107, v108, v109, v110, v111, v112, v113], rfl, ⟨rfl, by omega⟩, ⟨[.slice a103 x.dn.length cap104], [v106, v107, v108, v109, v110, v111, v112, v113], rfl, ⟨_, _, rfl, R133⟩, ⟨_, _, _, _, _, _, _, _, rfl, C134⟩⟩⟩⟩) hb (hd)) ?_
 rintro _ w141 E142 ⟨cs138, rfl, R139⟩
 obtain ⟨_, _, rfl, ⟨rfl, hl144⟩, ⟨_, _, rfl, ⟨rfl, hl145⟩, ⟨_, _, rfl, ⟨a146, cap147, rfl, R148⟩, ⟨v149, v150, v151, v152, v153, v154, v155, v156, rfl, C157⟩⟩⟩⟩ := R139
 have hE158 := hE131.and0 E142
 have := E142.size
 have B159 := B132.eff0 E142
 have R160 := R133.step same E142 no0
 have C161 := Kd.step (Kd.array 8 [] (Kd.slice Kd.str) rfl) C134 same E142 no0
 have B162 := B135.eff0 E142
 have B163 := B136.eff0 E142
 have hM164 := hM137.eff E142
 refine L.store 0 [sv x.href, sv x.uuid, .slice a146 x.dn.length cap147, v149, v150, v151, v152, v153, v154, v155, v156] [sv x.href, sv x.uuid, .slice a146 x.dn.length cap147, v149, v150, v151, v152, v153, v154, v155, v156] (by kernel_rfl : lookAt _ _ _ _ = some ((Op.store 34 (Operand.tmp 2) (Operand.tmp 20)), none)) (by kernel_rfl) B163 (by kernel_rfl) (by kernel_rfl) (by kernel_rfl) (ones_app (a := [sv x.href, sv x.uuid, .slice a146 x.dn.length cap147]) (b := [v149, v150, v151, v152, v153, v154, v155, v156]) (one_of_all (by kernel_rfl)) (Kd.one (Kd.array 8 [] (Kd.slice Kd.str) rfl) C157)) (by kernel_rfl) ?_
 intro w165 E166 hz167 B168
 have hE169 := hE158.and1 E166 (by omega)
 have := E166.size
 have B170 := B159.eff1 E166 (by omega)
 have R171 := R160.step same E166 (in1 (List.mem_append_left _ (List.mem_singleton.2 rfl)))
 have C172 := Kd.step (Kd.array 8 [] (Kd.slice Kd.str) rfl) C161 same E166 (in1 (List.mem_append_left _ (List.mem_singleton.2 rfl)))
 have B173 := B162.eff1 E166 (by omega)
 have R174 := R148.step same E166 (in1 (List.mem_append_left _ (List.mem_singleton.2 rfl)))
 have C175 := Kd.step (Kd.array 8 [] (Kd.slice Kd.str) rfl) C157 same E166 (in1 (List.mem_append_left _ (List.mem_singleton.2 rfl)))
 have hM176 := hM164.eff E166
 refine L.runU [8] [] [(3, .bool true)] (by kernel_rfl) (by kernel_rfl) ?_
 refine L.done ?_
 show S _ _ _ c23b_1_1_1 _ _ _ _
 refine S.ret (by kernel_rfl) ?_
 show Leave _ _ _ _ _ _ _ _
 refine Leave.ret2 (x := .cell 2 34) (y := .tmp 3) (.agg #[sv x.href, sv x.uuid, .slice a146 x.dn.length cap147, v149, v150, v151, v152, v153, v154, v155, v156]) (.bool true) (by kernel_rfl) (.ofC 0 (by kernel_rfl) B168.cells (by kernel_rfl)) (.ofT (by kernel_rfl)) ?_
 have hsub177 : ∀ b, b ∈ M → b ∈ [b115] ++ M := (sDrop sSame)
 have hM178 : Mok (M) w165 := hM176.sub hsub177
 have F179 := R171.sub hsub177
 have F180 := Kd.sub (Kd.array 8 [] (Kd.slice Kd.str) rfl) C172 hsub177
 have F181 := R174.sub hsub177
 have F182 := Kd.sub (Kd.array 8 [] (Kd.slice Kd.str) rfl) C175 hsub177
 exact ⟨_, rfl, hE169, [sv x.href, sv x.uuid, .slice a146 x.dn.length cap147, v149, v150, v151, v152, v153, v154, v155, v156], rfl, ⟨[sv x.href], [sv x.uuid, .slice a146 x.dn.length cap147, v149, v150, v151, v152, v153, v154, v155, v156], rfl, ⟨rfl, by omega⟩, ⟨[sv x.uuid], [.slice a146 x.dn.length cap147, v149, v150, v151, v152, v153, v154, v155, v156], rfl, ⟨rfl, by omega⟩, ⟨[.slice a146 x.dn.length cap147], [v149, v150, v151, v152, v153, v154, v155, v156], rfl, ⟨_, _, rfl, F181⟩, ⟨_, _, _, _, _, _, _, _, rfl, F182⟩⟩⟩⟩⟩
end Go.Proofs.YtjleeadiadpiaaaGreatDoor
namespace Go.Proofs.YtjleeadiadpiaaaGreatDoor
open Go Go.Fx Go.RowKit Go.Maps Go.Sort Go.Shelf Go.Proofs Go.ChangeMaps Go.MapKept
open Go.WideElems (Fit)
def Tryz.keysA_ren : Go.Shelf.Ren := ⟨fun | 7 => 48 | 10 => 75 | n => n, fun | 23 => 53 | 26 => 9 | 3 => 40 | 28 => 102 | 0 => 0 | 27 => 101 | 33 => 75 | 4 => 4 | n => n, fun | n => n⟩
theorem Tryz.keysA : Go.Proofs.SlLaysZ.n7 Tryz.prog Tryz.keysA_ren := {
  mixed := by kernel_rfl
  f7 := ⟨Tryz.f48.name, by decide, Tryz.func48.trans (congrArg some (by kernel_rfl))⟩
  f10 := ⟨Tryz.f75.name, by decide, Tryz.func75.trans (congrArg some (by kernel_rfl))⟩
  t0 := Tryz.underlying0
  a0 := Tryz.isAgg0
  z0 := Tryz.sizeOf0
  v0 := Tryz.zeroValue0
  t4 := Tryz.underlying4
  a4 := Tryz.isAgg4
  z4 := Tryz.sizeOf4
  v4 := Tryz.zeroValue4
  t23 := Tryz.underlying53
  a23 := Tryz.isAgg53
  z23 := Tryz.sizeOf53
  v23 := Tryz.zeroValue53
  t26 := Tryz.underlying9
  a26 := Tryz.isAgg9
  z26 := Tryz.sizeOf9
  v26 := Tryz.zeroValue9
  t27 := Tryz.underlying101
  a27 := Tryz.isAgg101
  z27 := Tryz.sizeOf101
  v27 := Tryz.zeroValue101
  t28 := Tryz.underlying102
  a28 := Tryz.isAgg102
  z28 := Tryz.sizeOf102
  v28 := Tryz.zeroValue102
  t33 := Tryz.underlying75
  a33 := Tryz.isAgg75
  z33 := Tryz.sizeOf75
  v33 := Tryz.zeroValue75 }
def Tryz.sortedA_ren : Go.Shelf.Ren := ⟨fun | 6 => 74 | 8 => 115 | 9 => 116 | 11 => 145 | 13 => 147 | 12 => 146 | 23 => 173 | 24 => 174 | 14 => 164 | 15 => 165 | 16 => 166 | 17 => 167 | 18 => 168 | 19 => 169 | 20 => 170 | 21 => 171 | 22 => 172 | 25 => 191 | 26 => 192 | 27 => 193 | 28 => 194 | 29 => 195 | 30 => 196 | 31 => 205 | n => n, fun | 26 => 9 | 28 => 102 | 24 => 30 | 0 => 0 | 3 => 3 | 37 => 182 | 48 => 221 | 50 => 223 | 4 => 4 | 40 => 215 | 39 => 214 | 45 => 161 | 5 => 5 | 9 => 9 | 51 => 241 | 55 => 245 | 57 => 256 | 58 => 257 | 33 => 75 | n => n, fun | n => n⟩
theorem Tryz.sortedA : Go.Proofs.SlLaysZ.n6 Tryz.prog Tryz.sortedA_ren := {
  mixed := by kernel_rfl
  f6 := ⟨Tryz.f74.name, by decide, Tryz.func74.trans (congrArg some (by kernel_rfl))⟩
  f8 := ⟨Tryz.f115.name, by decide, Tryz.func115.trans (congrArg some (by kernel_rfl))⟩
  f11 := ⟨Tryz.f145.name, by decide, Tryz.func145.trans (congrArg some (by kernel_rfl))⟩
  t0 := Tryz.underlying0
  a0 := Tryz.isAgg0
  z0 := Tryz.sizeOf0
  v0 := Tryz.zeroValue0
  t24 := Tryz.underlying30
  a24 := Tryz.isAgg30
  z24 := Tryz.sizeOf30
  v24 := Tryz.zeroValue30
  t26 := Tryz.underlying9
  a26 := Tryz.isAgg9
  z26 := Tryz.sizeOf9
  v26 := Tryz.zeroValue9
  t28 := Tryz.underlying102
  a28 := Tryz.isAgg102
  z28 := Tryz.sizeOf102
  v28 := Tryz.zeroValue102
  i26 := by kernel_rfl }
def Tryz.sortA_ren : Go.Shelf.Ren := ⟨fun | 6 => 116 | 8 => 147 | 9 => 146 | 19 => 173 | 20 => 174 | 21 => 164 | 22 => 165 | 23 => 166 | 24 => 167 | 25 => 168 | 26 => 169 | 27 => 170 | 28 => 171 | 29 => 172 | 36 => 191 | 31 => 192 | 32 => 193 | 37 => 194 | 38 => 195 | 39 => 196 | 41 => 205 | n => n, fun | 27 => 30 | 29 => 9 | 3 => 3 | 32 => 182 | 26 => 30 | 0 => 0 | 44 => 221 | 46 => 223 | 4 => 4 | 36 => 215 | 35 => 214 | 41 => 161 | 5 => 5 | 9 => 9 | 53 => 241 | 57 => 245 | 63 => 256 | 64 => 257 | n => n, fun | n => n⟩
theorem Tryz.sortA : Go.Proofs.SlLaysM.n6 Tryz.prog Tryz.sortA_ren := {
  mixed := by kernel_rfl
  f6 := ⟨Tryz.f116.name, by decide, Tryz.func116.trans (congrArg some (by kernel_rfl))⟩
  f8 := Tryz.func147.trans (congrArg some (by kernel_rfl))
  f9 := ⟨Tryz.f146.name, by decide, Tryz.func146.trans (congrArg some (by kernel_rfl))⟩
  f19 := Tryz.func173.trans (congrArg some (by kernel_rfl))
  f20 := Tryz.func174.trans (congrArg some (by kernel_rfl))
  f21 := ⟨Tryz.f164.name, by decide, Tryz.func164.trans (congrArg some (by kernel_rfl))⟩
  f22 := ⟨Tryz.f165.name, by decide, Tryz.func165.trans (congrArg some (by kernel_rfl))⟩
  f23 := ⟨Tryz.f166.name, by decide, Tryz.func166.trans (congrArg some (by kernel_rfl))⟩
  f24 := ⟨Tryz.f167.name, by decide, Tryz.func167.trans (congrArg some (by kernel_rfl))⟩
  f25 := ⟨Tryz.f168.name, by decide, Tryz.func168.trans (congrArg some (by kernel_rfl))⟩
  f26 := ⟨Tryz.f169.name, by decide, Tryz.func169.trans (congrArg some (by kernel_rfl))⟩
  f27 := ⟨Tryz.f170.name, by decide, Tryz.func170.trans (congrArg some (by kernel_rfl))⟩
  f28 := ⟨Tryz.f171.name, by decide, Tryz.func171.trans (congrArg some (by kernel_rfl))⟩
  f29 := ⟨Tryz.f172.name, by decide, Tryz.func172.trans (congrArg some (by kernel_rfl))⟩
  f31 := Tryz.func192.trans (congrArg some (by kernel_rfl))
  f32 := Tryz.func193.trans (congrArg some (by kernel_rfl))
  f36 := ⟨Tryz.f191.name, by decide, Tryz.func191.trans (congrArg some (by kernel_rfl))⟩
  f37 := ⟨Tryz.f194.name, by decide, Tryz.func194.trans (congrArg some (by kernel_rfl))⟩
  f38 := ⟨Tryz.f195.name, by decide, Tryz.func195.trans (congrArg some (by kernel_rfl))⟩
  f39 := ⟨Tryz.f196.name, by decide, Tryz.func196.trans (congrArg some (by kernel_rfl))⟩
  f41 := ⟨Tryz.f205.name, by decide, Tryz.func205.trans (congrArg some (by kernel_rfl))⟩
  t0 := Tryz.underlying0
  a0 := Tryz.isAgg0
  z0 := Tryz.sizeOf0
  v0 := Tryz.zeroValue0
  t3 := Tryz.underlying3
  a3 := Tryz.isAgg3
  z3 := Tryz.sizeOf3
  v3 := Tryz.zeroValue3
  t4 := Tryz.underlying4
  a4 := Tryz.isAgg4
  z4 := Tryz.sizeOf4
  v4 := Tryz.zeroValue4
  t5 := Tryz.underlying5
  a5 := Tryz.isAgg5
  z5 := Tryz.sizeOf5
  v5 := Tryz.zeroValue5
  t9 := Tryz.underlying9
  a9 := Tryz.isAgg9
  z9 := Tryz.sizeOf9
  v9 := Tryz.zeroValue9
  t26 := Tryz.underlying30
  a26 := Tryz.isAgg30
  z26 := Tryz.sizeOf30
  v26 := Tryz.zeroValue30
  t27 := Tryz.underlying30
  a27 := Tryz.isAgg30
  z27 := Tryz.sizeOf30
  v27 := Tryz.zeroValue30
  t29 := Tryz.underlying9
  a29 := Tryz.isAgg9
  z29 := Tryz.sizeOf9
  v29 := Tryz.zeroValue9
  t32 := Tryz.underlying182
  a32 := Tryz.isAgg182
  z32 := Tryz.sizeOf182
  v32 := Tryz.zeroValue182
  t35 := Tryz.underlying214
  a35 := Tryz.isAgg214
  z35 := Tryz.sizeOf214
  v35 := Tryz.zeroValue214
  t36 := Tryz.underlying215
  a36 := Tryz.isAgg215
  z36 := Tryz.sizeOf215
  v36 := Tryz.zeroValue215
  t41 := Tryz.underlying161
  a41 := Tryz.isAgg161
  z41 := Tryz.sizeOf161
  v41 := Tryz.zeroValue161
  t44 := Tryz.underlying221
  a44 := Tryz.isAgg221
  z44 := Tryz.sizeOf221
  v44 := Tryz.zeroValue221
  t46 := Tryz.underlying223
  a46 := Tryz.isAgg223
  z46 := Tryz.sizeOf223
  v46 := Tryz.zeroValue223
  t53 := Tryz.underlying241
  a53 := Tryz.isAgg241
  z53 := Tryz.sizeOf241
  v53 := Tryz.zeroValue241
  t57 := Tryz.underlying245
  a57 := Tryz.isAgg245
  z57 := Tryz.sizeOf245
  v57 := Tryz.zeroValue245
  t63 := Tryz.underlying256
  a63 := Tryz.isAgg256
  z63 := Tryz.sizeOf256
  v63 := Tryz.zeroValue256
  t64 := Tryz.underlying257
  a64 := Tryz.isAgg257
  z64 := Tryz.sizeOf257
  v64 := Tryz.zeroValue257 }
theorem sortsA (m : Nat) : AnyZ.SortsIn Tryz.prog Tryz.sortedA_ren Fence.wide m :=
  ⟨fun blk off cap ss W hH hblk hsz => callsIn_wide.2 (AnyM.slices_Sort_string Tryz.sortA blk off cap ss W hH hblk hsz),
   fun p cap W => callsIn_wide.2 (AnyM.slices_Sort_string_none Tryz.sortA p cap W)⟩
theorem mapis_owns {P : Program} {kt : TypeId} {α : Type} {K : Kd α} {agg : Bool} {M : List Nat} {w : World} {b : Nat} {l : List (Str × α)} (hm : MapIs Key.str K agg M w b l) (hk : P.underlying kt = some .string)
    (hlen : l.length ≤ maxLen) (hkeys : ∀ p ∈ l, p.1.length ≤ maxLen) :
    ∃ D : DataW Unit, w.ownsMap P kt (fun _ => some (.nil, [])) b l.length D ∧ (strKeys D).Perm (l.map (·.1)) ∧ Maps.size D = l.length := by
  obtain ⟨es, clock, h, hs, he, hnd, hbn, hbc⟩ := hm
  have hall : ∀ (i : Nat) (e : MapEntry), es.toList[i]? = some e → ∃ p, l[i]? = some p ∧ e.key = sv p.1 := by
    intro i e hi
    have hlt := (List.getElem?_eq_some_iff.1 hi).1
    have hlt' : i < l.length := by rw [← hs]; simpa using hlt
    exact ⟨l[i], List.getElem?_eq_getElem hlt', (he i e _ hi (List.getElem?_eq_getElem hlt')).1⟩
  have hkeq : es.toList.map (·.key) = l.map (fun p => sv p.1) := by
    apply List.ext_getElem?
    intro i
    rw [List.getElem?_map, List.getElem?_map]
    cases hi : es.toList[i]? with
    | none =>
      have : l[i]? = none := by rw [List.getElem?_eq_none_iff] at hi ⊢; rw [← hs]; simpa using hi
      rw [this]; rfl
    | some e =>
      obtain ⟨p, hp, hke⟩ := hall i e hi
      rw [hp]; simp [hke]
  have hinj : Function.Injective sv := fun x y h => by simpa [sv] using h
  have hknd : (es.toList.map (·.key)).Nodup := by
    rw [hkeq, show (fun p : Str × α => sv p.1) = sv ∘ (fun p : Str × α => p.1) from rfl, ← List.map_map]
    show List.Pairwise (· ≠ ·) _
    rw [List.pairwise_map]
    exact List.Pairwise.imp (fun h e => h (hinj e)) hnd
  have hrd : ∀ x ∈ es.toList, ∃ p ∈ l, x.key = sv p.1 ∧ Go.WideElems.rd P kt (fun _ => some (.nil, [])) x = some (Lit.string p.1, (DataW.nil : DataW Unit)) := by
    intro x hx
    obtain ⟨i, hi, rfl⟩ := List.getElem_of_mem hx
    obtain ⟨p, hp, hke⟩ := hall i _ (List.getElem?_eq_getElem hi)
    have hpl := List.mem_of_getElem? hp
    refine ⟨p, hpl, hke, ?_⟩
    unfold Go.WideElems.rd
    rw [hke, sv, Go.WideMaps.keyOf_string_mk hk (by exact hkeys p hpl)]
    rfl
  refine ⟨_, ⟨es, clock, h, ⟨by rw [hs]; exact hlen, ⟨hbc, hbn, hknd⟩, fun x hx => let ⟨p, _, _, h⟩ := hrd x hx; ⟨_, h⟩⟩, by omega, rfl⟩, ?_, ?_⟩
  · refine ((Go.WideShapes.sorted_perm _).map _).trans ?_
    rw [List.map_map]
    have : es.toList.map ((fun p : Lit × DataW Unit => strOf p.1) ∘ Go.WideElems.rg P kt (fun _ => some (.nil, []))) = l.map (·.1) := by
      apply List.ext_getElem?
      intro i
      rw [List.getElem?_map, List.getElem?_map]
      cases hi : es.toList[i]? with
      | none =>
        have : l[i]? = none := by rw [List.getElem?_eq_none_iff] at hi ⊢; rw [← hs]; simpa using hi
        rw [this]; rfl
      | some e =>
        obtain ⟨p, hp, hke⟩ := hall i e hi
        obtain ⟨p', _, hke', hr⟩ := hrd e (List.mem_of_getElem? hi)
        have : p'.1 = p.1 := hinj (hke'.symm.trans hke)
        rw [hp]; simp [Go.WideElems.rg, hr, strOf, this]
    rw [this]
  · rw [size_eq, (Go.WideShapes.sorted_perm _).length_eq, List.length_map, ← hs]; simp
theorem ownsRow_sl {w w0 : World} {e : TypeId} {v : Value} {ks : List Str} (h : w.ownsRow w0.heap.size e 1 v ks.length (ks.map encStr)) (hk : ∀ s ∈ ks, s.length < 4611686018427387904) (hl : ks.length < 4611686018427387904) :
    ∃ a cap, v = .slice a ks.length cap ∧ ∀ M, Mok M w0 → Sl Kd.str M w a ks := by
  rcases h.2 with ⟨hv, hn⟩ | ⟨g, cap, cur, hv, hb, hh, hnc, hcm, hcs, htake⟩
  · have : ks = [] := List.eq_nil_of_length_eq_zero hn
    subst this
    exact ⟨none, 0, hv, fun M _ => Sl.nil _ _ _ _⟩
  · refine ⟨some ⟨g, 0, none⟩, cap, hv, fun M hM => ⟨hl, fun _ => ⟨_, rfl, rfl, fun hg => ?_, (Array.getElem?_eq_some_iff.1 hh).1, fun i x hi => ⟨[sv x], ⟨?_, fun j hj => ?_⟩, rfl, hk x (List.mem_of_getElem? hi)⟩⟩⟩⟩
    · have := hM g hg; omega
    · rw [add_plain' _ rfl]
    · obtain rfl : j = 0 := by simpa using hj
      have hlt := (List.getElem?_eq_some_iff.1 hi).1
      have e1 := add_plain' (⟨g, 0, none⟩ : Addr) rfl (i * Kd.str.sz)
      rw [e1, add_plain' _ rfl]
      have h2 : (ks.map encStr)[i]? = some (sv x) := by rw [List.getElem?_map, hi]; rfl
      rw [← htake, List.getElem?_take] at h2
      simp only [Nat.mul_one, hlt, if_true] at h2
      simp only [World.cell?, hh]
      show cur[0 + i * 1 + 0]? = _
      rw [← Array.getElem?_toList]
      simpa using h2
theorem sorted_ok (b1 bx : Nat) (l1 : List (Str × Pg)) (w : World) (hm : MapIs Key.str kPg true [] w b1 l1) (hB : Blk w bx [.map (some b1)] 53) (hlen : l1.length ≤ 1048576) (hkeys : ∀ p ∈ l1, p.1.length < 4611686018427387904) :
    Calls Tryz.prog 74 #[.func (.func 75) #[] #[.pointer (some ⟨bx, 0, none⟩)]] w (RetW [] w fun v w' => ∃ a cap ks, v = .slice a ks.length cap ∧ ks = (l1.map (·.1)).mergeSort (fun x y => decide (x ≤ y)) ∧ ∀ M, Mok M w → Sl Kd.str M w' a ks) := by
  have hmx : maxLen = 4611686018427387904 - 1 ∨ True := .inr trivial
  obtain ⟨D, hown, hperm, hsz⟩ := mapis_owns (P := Tryz.prog) (kt := 9) hm (by kernel_rfl) (by simp only [maxLen]; omega) (fun p hp => by have := hkeys p hp; simp only [maxLen]; omega)
  have hcell : w.cell? ⟨bx, 0, none⟩ = some (.map (some b1)) := by
    have := hB.cells.2 0 (by simp)
    rwa [add_plain' _ rfl] at this
  have hseq : SeqGives Fence.wide 2 Tryz.prog 75 #[.pointer (some ⟨bx, 0, none⟩)] encStr (fun ss => ss.Perm (strKeys D)) (Maps.size D) w :=
    AnyZ.keys_gives (ρ := Tryz.keysA_ren) { Tryz.keysA with } Fence.wide _ trivial rfl (by omega) bx b1 _ D w hB.lt hcell hown
  have cS := AnyZ.sorted_in Tryz.sortedA Fence.wide 5 trivial trivial trivial trivial rfl (by omega) (sortsA _) (enters_of Tryz.func116 (by kernel_rfl) rfl) 75 #[.pointer (some ⟨bx, 0, none⟩)] trivial (enters_of Tryz.func75 (by kernel_rfl) rfl) _ _ (by rw [hsz]; simp only [maxLen]; omega) (by rw [hsz]; omega) _ hseq
  change CallsIn _ _ Tryz.prog 74 _ _ _ at cS
  refine (callsIn_wide.1 cS).mono ?_
  rintro e w' ⟨v, ss, rfl, hS, hrow, hnil, hb⟩
  have hp : ss.Perm (l1.map (·.1)) := hS.trans hperm
  have hms : ss.mergeSort (fun x y => decide (x ≤ y)) = (l1.map (·.1)).mergeSort (fun x y => decide (x ≤ y)) := by
    have tr : ∀ a b c : Str, decide (a ≤ b) = true → decide (b ≤ c) = true → decide (a ≤ c) = true := by
      intro a b c h1 h2; simp only [decide_eq_true_eq] at *; exact List.le_trans h1 h2
    have to : ∀ a b : Str, (decide (a ≤ b) || decide (b ≤ a)) = true := by
      intro a b; simp only [Bool.or_eq_true, decide_eq_true_eq]; exact List.le_total a b
    refine List.Perm.eq_of_pairwise (le := fun x y => decide (x ≤ y) = true) ?_ (List.pairwise_mergeSort tr to _) (List.pairwise_mergeSort tr to _) ((List.mergeSort_perm _ _).trans (hp.trans (List.mergeSort_perm _ _).symm))
    intro a b _ _ h1 h2
    simp only [decide_eq_true_eq] at *
    exact List.le_antisymm h1 h2
  have hlen2 : ss.length = (ss.mergeSort (fun x y => decide (x ≤ y))).length := by simp
  rw [hlen2] at hrow
  obtain ⟨a, cap, hv, hsl⟩ := ownsRow_sl hrow (fun s hs => by
    have h1 : s ∈ l1.map (·.1) := hp.mem_iff.1 ((List.mergeSort_perm _ _).mem_iff.1 hs)
    obtain ⟨p, hpl, rfl⟩ := List.mem_map.1 h1
    exact hkeys p hpl) (by rw [← hlen2, hp.length_eq, List.length_map]; omega)
  exact ⟨v, rfl, Eff.of_below hb, a, cap, _, hv, hms, hsl⟩
end Go.Proofs.YtjleeadiadpiaaaGreatDoor
namespace Go.Proofs.YtjleeadiadpiaaaGreatDoor
open Go Go.Fx Go.RowKit
noncomputable def c48 : Code := bodyOf Tryz.f48
noncomputable def c48_0 : Code := kid 0 c48
noncomputable def o48_0 : Array Oper := regOps c48_0
noncomputable def c48_1 : Code := kid 1 c48
noncomputable def c48_1_0 : Code := kid 0 c48_1
noncomputable def o48_1_0 : Array Oper := regOps c48_1_0
noncomputable def c48_1_1 : Code := kid 1 c48_1
set_option maxHeartbeats 400000 in
theorem keys48_ok (b1 : Nat) (w : World)  : Calls Tryz.prog 48 #[.map (some b1)] w (RetW [] w fun v w' => ∃ bx, v = .func (.func 75) #[] #[.pointer (some ⟨bx, 0, none⟩)] ∧ Blk w' bx [.map (some b1)] 53 ∧ w.heap.size ≤ bx) := by
 refine calls_of_S (n := 4) (c := c48) Tryz.func48 (by kernel_rfl) (by kernel_rfl) (Nat.le_of_ble_eq_true (by kernel_rfl)) ?_
 have hE0 : Eff [] w w := Eff.refl _ _
 refine S.seq (x := c48_0) (y := c48_1) (by kernel_rfl) ?_
 refine S.reg (ops := o48_0) (js := [0, 1]) (by kernel_rfl) (by kernel_rfl) ?_
 refine L.box [.map (some b1)] (by kernel_rfl : lookAt _ _ _ _ = some ((Op.box 53 (Operand.tmp 0)), some 1)) (by kernel_rfl) ?_
 intro b101 w102 hs103 hz104 E105 B106
 have hE107 := hE0.and0 E105
 have := E105.size
 refine L.runU [1] [] [(2, .nilFunc)] (by kernel_rfl) (by kernel_rfl) ?_
 refine L.done ?_
 show S _ _ _ c48_1 _ _ _ _
 refine S.seq (x := c48_1_0) (y := c48_1_1) (by kernel_rfl) ?_
 refine S.reg (ops := o48_1_0) (js := [0, 1]) (by kernel_rfl) (by kernel_rfl) ?_
 refine L.runU [0, 1] [] [(3, .func (.func 75) #[] #[.pointer (some ⟨b101, 0, none⟩)]), (2, .func (.func 75) #[] #[.pointer (some ⟨b101, 0, none⟩)])] (by kernel_rfl) (by kernel_rfl) ?_
 refine L.done ?_
 show S _ _ _ c48_1_1 _ _ _ _
 refine S.ret (by kernel_rfl) ?_
 show Leave _ _ _ _ _ _ _ _
 refine Leave.ret1 (x := .tmp 2) (.func (.func 75) #[] #[.pointer (some ⟨b101, 0, none⟩)]) (by kernel_rfl) (.ofT (by kernel_rfl)) ?_
 exact ⟨_, rfl, hE107, _, rfl, B106, by omega⟩
noncomputable def c47 : Code := bodyOf Tryz.f47
noncomputable def c47_0 : Code := kid 0 c47
noncomputable def o47_0 : Array Oper := regOps c47_0
noncomputable def c47_1 : Code := kid 1 c47
noncomputable def c47_1_0 : Code := kid 0 c47_1
noncomputable def o47_1_0 : Array Oper := regOps c47_1_0
noncomputable def c47_1_1 : Code := kid 1 c47_1
set_option maxHeartbeats 400000 in
theorem ord47_ok (b1 bx : Nat) (l1 : List (Str × Pg)) (w : World) (hm : MapIs Key.str kPg true [] w b1 l1) (hB : Blk w bx [.map (some b1)] 53) (hlen : l1.length ≤ 1048576) (hkeys : ∀ p ∈ l1, p.1.length < 4611686018427387904) : Calls Tryz.prog 47 #[.func (.func 75) #[] #[.pointer (some ⟨bx, 0, none⟩)]] w (RetW [] w fun v w' => ∃ a cap ks, v = .slice a ks.length cap ∧ ks = (l1.map (·.1)).mergeSort (fun x y => decide (x ≤ y)) ∧ ∀ M, Mok M w → Sl Kd.str M w' a ks) := by
 refine calls_of_S (n := 5) (c := c47) Tryz.func47 (by kernel_rfl) (by kernel_rfl) (Nat.le_of_ble_eq_true (by kernel_rfl)) ?_
 have hE0 : Eff [] w w := Eff.refl _ _
 refine S.seq (x := c47_0) (y := c47_1) (by kernel_rfl) ?_
 refine S.reg (ops := o47_0) (js := [0]) (by kernel_rfl) (by kernel_rfl) ?_
 refine L.runU [0] [] [(2, .slice none 0 0)] (by kernel_rfl) (by kernel_rfl) ?_
 refine L.done ?_
 show S _ _ _ c47_1 _ _ _ _
 refine S.seq (x := c47_1_0) (y := c47_1_1) (by kernel_rfl) ?_
 refine S.reg (ops := o47_1_0) (js := [0, 1, 2]) (by kernel_rfl) (by kernel_rfl) ?_
 refine L.runU [0] [1, 2] [(3, .func (.func 75) #[] #[.pointer (some ⟨bx, 0, none⟩)])] (by kernel_rfl) (by kernel_rfl) ?_
 refine L.call (f := 74) (by kernel_rfl : lookAt _ _ _ _ = some ((Op.call { callee := (Callee.value (Operand.func 74)), args := #[(Operand.tmp 3)], argTypes := #[102] }), some 4)) e74 (by kernel_rfl) (sorted_ok b1 bx l1 _ (hm.weak (fun _ h => absurd h List.not_mem_nil)) hB (by exact hlen) (hkeys)) ?_
 rintro _ w107 E108 ⟨a101, cap102, ks103, rfl, hks104, R105⟩
 have R110 := R105 ([]) (Mok.nil _)
 have hE111 := hE0.and0 E108
 have := E108.size
 have Q112 := hm.step same E108 (by simp) no0
 have B113 := hB.eff0 E108
 have hM114 := (Mok.nil _).eff E108
 refine L.runU [2] [] [(2, .slice a101 ks103.length cap102)] (by kernel_rfl) (by kernel_rfl) ?_
 refine L.done ?_
 show S _ _ _ c47_1_1 _ _ _ _
 refine S.ret (by kernel_rfl) ?_
 show Leave _ _ _ _ _ _ _ _
 refine Leave.ret1 (x := .tmp 2) (.slice a101 ks103.length cap102) (by kernel_rfl) (.ofT (by kernel_rfl)) ?_
 exact ⟨_, rfl, hE111, _, _, _, rfl, hks104, R105⟩
end Go.Proofs.YtjleeadiadpiaaaGreatDoor
namespace Go.Proofs.YtjleeadiadpiaaaGreatDoor
open Go Go.Fx Go.RowKit
theorem kCt_good : kCt.Good := Good.eight _ (Good.slice Good.str)
theorem kPg_good : kPg.Good := Good.iso (Good.pair Good.str (Good.pair Good.str kCt_good))
theorem copied_all (cs : List Value) (x : Pg) (w : World) (h : kPg.R [] w cs x) (hb : ∀ j, (x.shadow.getD j []).length ≤ 1048576) : Calls Tryz.prog 41 #[.agg (cs).toArray] w (RetW [] w fun v w' => ∃ cs', v = .agg cs'.toArray ∧ ∀ M, Mok M w → kPg.R M w cs x → kPg.R M w' cs' x) := by
 refine (calls_all (S := fun M => kPg.R M w cs x) (T := fun v w' M => ∃ cs', v = .agg cs'.toArray ∧ kPg.R M w' cs' x) h (fun h1 h2 => kPg_good h1 h2 (Eff.refl _ _)) (fun h1 h2 => Kd.sub kPg h1 h2) (by rintro v w' M M' ⟨cs', h1, h2⟩ h3; exact ⟨cs', h1, Kd.sub kPg h2 h3⟩) (fun M hM hS => copied_ok M cs x w hM hS hb)).mono ?_
 rintro e w' ⟨v, he, E, hv⟩
 obtain ⟨cs', h1, _⟩ := hv [] (Mok.nil _) h
 refine ⟨v, he, E, cs', h1, fun M hM hS => ?_⟩
 obtain ⟨cs2, h2, h3⟩ := hv M hM hS
 rw [h1] at h2
 have : cs' = cs2 := by
  have := congrArg (fun v => match v with | .agg c => c.toList | _ => []) h2
  simpa using this
 exact this ▸ h3
def encPg (a : Option Addr) (xs : List Pg) (m : Nat) (w : World) (x : Nat × Pg) (args : List Value) : Prop :=
 ∃ cs, args = [.int .i64 (x.1 : Int), .agg cs.toArray] ∧ ∀ M, (∀ b, b ∈ M → b < m) → Sl kPg M w a xs → kPg.R M w cs x.2
theorem sl_back {α : Type} {K : Kd α} (hK : K.Good) {M M0 : List Nat} {w0 w1 : World} {a : Option Addr} {p : Addr} {xs : List α} {i : Nat} {x : α} {cs : List Value} (h0 : Sl K [] w0 a xs) (h : Sl K M w1 a xs) (hx : xs[i]? = some x) (hp : a = some p) (hA : CAt M0 w0 (p.add (i * K.sz)) cs) (hl : cs.length = K.sz) (E : Eff [] w0 w1) : K.R M w0 cs x := by
 subst hp
 obtain ⟨p0, cs0, e0, hc0, hr0⟩ := h0.open_ hx
 obtain ⟨p1, cs1, e1, hc1, hr1⟩ := h.open_ hx
 obtain rfl := Option.some.inj e0
 obtain rfl := Option.some.inj e1
 obtain rfl : cs0 = cs1 := cells_same hc0.1 hc1.1 E hc0.2.2 (by rw [K.len hr0, K.len hr1])
 have : K.R M w0 cs0 x := by simpa using hK hr0 hr1 E
 exact (cells_same hA.1 hc0.1 (Eff.refl _ _) hA.2.2 (by rw [hl, K.len hr0])) ▸ this
noncomputable def c49 : Code := bodyOf Tryz.f49
noncomputable def c49_0 : Code := kid 0 c49
noncomputable def o49_0 : Array Oper := regOps c49_0
noncomputable def c49_1 : Code := kid 1 c49
noncomputable def c49_1_0 : Code := kid 0 c49_1
noncomputable def c49_1_0_0 : Code := kid 0 c49_1_0
noncomputable def c49_n5 : Code := kid 0 c49_1_0_0
noncomputable def o49_n5 : Array Oper := regOps c49_n5
noncomputable def c49_n6 : Code := kid 1 c49_1_0_0
noncomputable def c49_n7 : Code := kid 0 c49_n6
noncomputable def c49_n8 : Code := kid 0 c49_n7
noncomputable def c49_n9 : Code := kid 1 c49_n7
noncomputable def c49_n10 : Code := kid 1 c49_n6
noncomputable def c49_n11 : Code := kid 0 c49_n10
noncomputable def c49_n12 : Code := kid 0 c49_n11
noncomputable def c49_n13 : Code := kid 0 c49_n12
noncomputable def o49_n13 : Array Oper := regOps c49_n13
noncomputable def c49_n14 : Code := kid 1 c49_n12
noncomputable def c49_n15 : Code := kid 0 c49_n14
noncomputable def o49_n15 : Array Oper := regOps c49_n15
noncomputable def c49_n16 : Code := kid 1 c49_n14
noncomputable def c49_n17 : Code := kid 0 c49_n16
noncomputable def c49_n18 : Code := kid 1 c49_n16
noncomputable def c49_n19 : Code := kid 1 c49_n10
noncomputable def o49_n19 : Array Oper := regOps c49_n19
set_option maxHeartbeats 400000 in
theorem iter49 (b : Nat) (a : Option Addr) (cap : Nat) (xs : List Pg) (J : List Nat → Nat → List (Nat × Pg) → World → Prop) (w : World) (hd : ∀ N m pre w, J N m pre w → Blk w b [.slice a xs.length cap] 27 ∧ Sl kPg [] w a xs) (hst : ∀ N m pre w1 w2, J N m pre w1 → Eff [] w1 w2 → J N m pre w2) (hsm : ∀ x ∈ xs, ∀ j, (x.shadow.getD j []).length ≤ 1048576) : Seq Tryz.prog 49 #[.pointer (some ⟨b, 0, none⟩)] (encPg a xs) (nxL xs) (finL xs) w J := by
 intro Y Kk hY h0
 show Calls Tryz.prog 49 #[Y, .pointer (some ⟨b, 0, none⟩)] w _
 refine calls_of_S (n := 19) (c := c49) Tryz.func49 (by kernel_rfl) (by kernel_rfl) (Nat.le_of_ble_eq_true (by kernel_rfl)) ?_
 obtain ⟨B101, R102⟩ := hd _ _ _ _ h0
 have := B101.lt
 have hxl := R102.1
 refine S.seq (x := c49_0) (y := c49_1) (by kernel_rfl) ?_
 refine S.reg (ops := o49_0) (js := [0, 1, 2]) (by kernel_rfl) (by kernel_rfl) ?_
 refine L.val (.slice a xs.length cap) (by kernel_rfl : lookAt _ _ _ _ = some ((Op.load 27 (Operand.tmp 1)), some 5)) (by intro c e; cases e) (rx_load 0 (.slice a xs.length cap) (B101.cells) (by kernel_rfl) (by kernel_rfl)) ?_
 refine L.runU [1, 2] [] [(6, .int .i64 (((xs.length : Nat) : Int))), (7, .int .i64 0)] (by kernel_rfl) (by kernel_rfl) ?_
 refine L.done ?_
 show S _ _ _ c49_1 _ _ _ _
 refine S.block (id := 0) (x := c49_1_0) (by kernel_rfl) ?_
 refine S.loop (x := c49_1_0_0) (fun m σ' ds' w' => ∃ (k : Nat) (N : List Nat) (mb : Nat) (pre : List (Nat × Pg)), m = xs.length - pre.length ∧ (k = pre.length) ∧ (mb ≤ w'.heap.size) ∧ (J N mb pre w') ∧ (pre.length ≤ xs.length) ∧ (pre.map (·.2) = xs.take pre.length) ∧ Mok ([]) w' ∧ ds' = [] ∧ ∃ u, σ' = slots u [(0, Y), (5, .slice a xs.length cap), (6, .int .i64 (((xs.length : Nat) : Int))), (7, .int .i64 (((k : Nat) : Int)))]) (xs.length - [].length) (by kernel_rfl) ⟨0, [], w.heap.size, [], rfl, (by rfl), (by omega), (by exact h0), (by exact Nat.zero_le _), (by rfl), (Mok.nil _), rfl, _, Holds.eq (l := [(0, Y), (5, .slice a xs.length cap), (6, .int .i64 (((xs.length : Nat) : Int))), (7, .int .i64 0)]) ⟨by kernel_rfl, by kernel_rfl, by kernel_rfl, by kernel_rfl, trivial⟩⟩ ?_
 rintro m104 σ' ds' w103 ⟨k, N, mb, pre, hm106, hkk, hmb, hJ, hk, hq, hM107, rfl, u105, rfl⟩
 subst hkk
 obtain ⟨B108, R109⟩ := hd _ _ _ _ hJ
 have := B108.lt
 have hC110 := Eff.refl [] w103
 refine S.seq (x := c49_n5) (y := c49_n6) (by kernel_rfl) ?_
 refine S.reg (ops := o49_n5) (js := [0]) (by kernel_rfl) (by kernel_rfl) ?_
 refine L.runU [0] [] [(8, .bool (decide (((pre.length : Nat) : Int) < ((xs.length : Nat) : Int))))] (by kernel_rfl) (by kernel_rfl) ?_
 refine L.done ?_
 show S _ _ _ c49_n6 _ _ _ _
 refine S.seq (x := c49_n7) (y := c49_n10) (by kernel_rfl) ?_
 refine S.condP (((pre.length : Nat) : Int) < ((xs.length : Nat) : Int)) (o := (Operand.tmp 8)) (x := c49_n8) (y := c49_n9) (by kernel_rfl) (by kernel_rfl) (fun h111 => ?_) (fun h111 => ?_)
 ·refine S.skip (by kernel_rfl) ?_
  show S _ _ _ c49_n10 _ _ _ _
  refine S.seq (x := c49_n11) (y := c49_n19) (by kernel_rfl) ?_
  refine S.block (id := 1) (x := c49_n12) (by kernel_rfl) ?_
  refine S.seq (x := c49_n13) (y := c49_n14) (by kernel_rfl) ?_
  refine S.reg (ops := o49_n13) (js := [0, 1, 2, 3, 4, 5]) (by kernel_rfl) (by kernel_rfl) ?_
  refine L.runU [0] [1, 2, 3, 4, 5] [(9, .int .i64 (((pre.length : Nat) : Int)))] (by kernel_rfl) (by kernel_rfl) ?_
  obtain ⟨x115, hx116⟩ : ∃ x, (xs)[pre.length]? = some x := ⟨_, List.getElem?_eq_getElem (by omega)⟩
  obtain ⟨p112, _, hp113, A114, ⟨_, _, rfl, ⟨rfl, hl117⟩, ⟨_, _, rfl, ⟨rfl, hl118⟩, ⟨v119, v120, v121, v122, v123, v124, v125, v126, rfl, C127⟩⟩⟩⟩ := R109.open_ hx116
  refine L.val (.pointer (some (p112.add (pre.length * 10)))) (by kernel_rfl : lookAt _ _ _ _ = some ((Op.indexAddr 27 (Operand.tmp 5) (Operand.tmp 7)), some 10)) (by intro c e; cases e) (rx_indexAddr (e := 40) (sz := 10) (a := a) (p := p112) (len := xs.length) (cap := cap) (kk := .i64) (i := ((pre.length : Nat) : Int)) pre.length (pre.length * 10) (by kernel_rfl) hp113 (by kernel_rfl) (by kernel_rfl) (by kernel_rfl) (by omega) (by omega) (by omega)) ?_
  refine L.val (.agg #[sv x115.href, sv x115.uuid, v119, v120, v121, v122, v123, v124, v125, v126]) (by kernel_rfl : lookAt _ _ _ _ = some ((Op.load 40 (Operand.tmp 10)), some 11)) (by intro c e; cases e) (rx_load 0 (.agg #[sv x115.href, sv x115.uuid, v119, v120, v121, v122, v123, v124, v125, v126]) (A114.1) (by kernel_rfl) (by kernel_rfl)) ?_
  refine L.alloc [sv [], sv [], .slice none 0 0, .slice none 0 0, .slice none 0 0, .slice none 0 0, .slice none 0 0, .slice none 0 0, .slice none 0 0, .slice none 0 0] (by kernel_rfl : lookAt _ _ _ _ = some ((Op.alloc 40), some 4)) (by kernel_rfl) ?_
  intro b128 w129 hs130 hz131 E132 B133
  have := E132.size
  have hC134 := hC110.and0 E132
  have nm136 := ninN List.not_mem_nil B108.lt (nNew (fresh1 hs130) same)
  have B135 := B108.eff0 E132
  have R137 := R109.step (nNew (fresh1 hs130) same) E132 no0
  have A138 := A114.step (nNew (fresh1 hs130) same) E132 no0
  have C139 := Kd.step (Kd.array 8 [] (Kd.slice Kd.str) rfl) C127 (nNew (fresh1 hs130) same) E132 no0
  have hM140 : Mok ([b128] ++ []) w129 := (Mok.nil _).step E132 (nNew (flt1 (b := b128) (by omega)) same)
  refine L.runU [4] [5] [(3, .int .i64 (((pre.length : Nat) : Int)))] (by kernel_rfl) (by kernel_rfl) ?_
  refine L.store 0 [sv x115.href, sv x115.uuid, v119, v120, v121, v122, v123, v124, v125, v126] [sv x115.href, sv x115.uuid, v119, v120, v121, v122, v123, v124, v125, v126] (by kernel_rfl : lookAt _ _ _ _ = some ((Op.store 40 (Operand.tmp 4) (Operand.tmp 11)), none)) (by kernel_rfl) B133 (by kernel_rfl) (by kernel_rfl) (by kernel_rfl) (ones_app (a := [sv x115.href, sv x115.uuid]) (b := [v119, v120, v121, v122, v123, v124, v125, v126]) (one_of_all (by kernel_rfl)) (Kd.one (Kd.array 8 [] (Kd.slice Kd.str) rfl) C139)) (by kernel_rfl) ?_
  intro w141 E142 hz143 B144
  have := E142.size
  have hC145 := hC134.and1 E142 (by omega)
  have B146 := B135.eff1 E142 (by omega)
  have R147 := R137.step same E142 (in1 (List.mem_append_left _ (List.mem_singleton.2 rfl)))
  have A148 := A138.step same E142 (in1 (List.mem_append_left _ (List.mem_singleton.2 rfl)))
  have C149 := Kd.step (Kd.array 8 [] (Kd.slice Kd.str) rfl) C139 same E142 (in1 (List.mem_append_left _ (List.mem_singleton.2 rfl)))
  have hM150 := hM140.eff E142
  refine L.done ?_
  show S _ _ _ c49_n14 _ _ _ _
  refine S.seq (x := c49_n15) (y := c49_n16) (by kernel_rfl) ?_
  refine S.reg (ops := o49_n15) (js := [0, 1, 2, 3, 4, 5]) (by kernel_rfl) (by kernel_rfl) ?_
  refine L.runU [0, 1] [2, 3, 4, 5] [(12, Y), (13, .int .i64 (((pre.length : Nat) : Int)))] (by kernel_rfl) (by kernel_rfl) ?_
  refine L.val (.agg #[sv x115.href, sv x115.uuid, v119, v120, v121, v122, v123, v124, v125, v126]) (by kernel_rfl : lookAt _ _ _ _ = some ((Op.load 40 (Operand.tmp 4)), some 14)) (by intro c e; cases e) (rx_load 0 (.agg #[sv x115.href, sv x115.uuid, v119, v120, v121, v122, v123, v124, v125, v126]) (B144.cells) (by kernel_rfl) (by kernel_rfl)) ?_
  refine L.call (f := 41) (by kernel_rfl : lookAt _ _ _ _ = some ((Op.call { callee := (Callee.value (Operand.func 41)), args := #[(Operand.tmp 14)], argTypes := #[40] }), some 15)) e41 (by kernel_rfl) (copied_all [sv x115.href, sv x115.uuid, v119, v120, v121, v122, v123, v124, v125, v126] x115 _ (Kd.wk0 kPg ⟨[sv x115.href], [sv x115.uuid, v119, v120, v121, v122, v123, v124, v125, v126], rfl, ⟨rfl, by omega⟩, ⟨[sv x115.uuid], [v119, v120, v121, v122, v123, v124, v125, v126], rfl, ⟨rfl, by omega⟩, ⟨_, _, _, _, _, _, _, _, rfl, C149⟩⟩⟩) (hsm _ (List.mem_of_getElem? hx116))) ?_
  rintro _ w154 E155 ⟨cs151, rfl, R152⟩
  have := E155.size
  have hC157 := hC145.and0 E155
  have B158 := B146.eff0 E155
  have R159 := R147.step same E155 no0
  have A160 := A148.step same E155 no0
  have C161 := Kd.step (Kd.array 8 [] (Kd.slice Kd.str) rfl) C149 same E155 no0
  have B162 := B144.eff0 E155
  have hM163 := hM150.eff E155
  have hJ164 := hst _ _ _ _ _ hJ hC157
  have henc : encPg a xs mb w154 (pre.length, x115) [.int .i64 (pre.length : Int), .agg (cs151).toArray] := ⟨_, rfl, fun M hM hs => R152 M (fun b hb => Nat.lt_of_lt_of_le (hM b hb) (by omega)) (kPg.eff (sl_back kPg_good R109 hs hx116 hp113 A114 rfl hC157) hC145 no0)⟩
  refine L.callVR (Y := Y) (args := [.int .i64 (((pre.length : Nat) : Int)), .agg (cs151).toArray]) (by kernel_rfl : lookAt _ _ _ _ = some ((Op.call { callee := (Callee.value (Operand.tmp 12)), args := #[(Operand.tmp 13), (Operand.tmp 15)], argTypes := #[3, 40] }), some 16)) (by kernel_rfl) (by kernel_rfl) (hY N mb pre (pre.length, x115) _ _ hJ164 ⟨rfl, hx116, by omega, hq⟩ henc) ?_
  rintro e w165 (⟨rfl, hJ2⟩ | ⟨rfl, hKk⟩)
  ·show L _ _ _ _ _ _ _ _ _
   refine L.runU [5] [] [(17, .bool false)] (by kernel_rfl) (by kernel_rfl) ?_
   refine L.done ?_
   show S _ _ _ c49_n16 _ _ _ _
   refine S.condF (o := (Operand.tmp 17)) (x := c49_n17) (y := c49_n18) (by kernel_rfl) (by kernel_rfl) ?_
   refine S.skip (by kernel_rfl) ?_
   show S _ _ _ c49_n19 _ _ _ _
   refine S.reg (ops := o49_n19) (js := [0, 1]) (by kernel_rfl) (by kernel_rfl) ?_
   refine L.runU [0] [1] [(18, .int .i64 (IntKind.i64.wrap (((pre.length : Nat) : Int) + 1)))] (by kernel_rfl) (by kernel_rfl) ?_
   refine X.re64 (G := fun σ => L _ _ _ _ _ _ σ _ _) (d := 18) (((pre.length : Nat) : Int) + 1) (((pre.length + 1 : Nat) : Int)) (by kernel_rfl) (by omega) ?_
   refine L.runU [1] [] [(7, .int .i64 (((pre.length + 1 : Nat) : Int)))] (by kernel_rfl) (by kernel_rfl) ?_
   refine L.done ?_
   show ∃ m', m' < _ ∧ _
   refine ⟨xs.length - (pre ++ [(pre.length, x115)]).length, ?_, ⟨pre.length + 1, N, w165.heap.size, pre ++ [(pre.length, x115)], rfl, (by simp), (by omega), (by exact hJ2), (by simp; omega), (by exact nx_snoc hq hx116), (Mok.nil _), rfl, _, Holds.eq (l := [(0, Y), (5, .slice a xs.length cap), (6, .int .i64 (((xs.length : Nat) : Int))), (7, .int .i64 (((pre.length + 1 : Nat) : Int)))]) ⟨by kernel_rfl, by kernel_rfl, by kernel_rfl, by kernel_rfl, trivial⟩⟩⟩
   simp; omega
  ·show L _ _ _ _ _ _ _ _ _
   refine L.runU [5] [] [(17, .bool true)] (by kernel_rfl) (by kernel_rfl) ?_
   refine L.done ?_
   show S _ _ _ c49_n16 _ _ _ _
   refine S.condT (o := (Operand.tmp 17)) (x := c49_n17) (y := c49_n18) (by kernel_rfl) (by kernel_rfl) ?_
   refine S.ret (by kernel_rfl) ?_
   show Leave _ _ _ _ _ _ _ _
   refine Leave.ret0 (by kernel_rfl) ?_
   exact ⟨_, rfl, .inr hKk⟩
 ·refine S.exit (id := 0) (by kernel_rfl) ?_
  show Leave _ _ _ _ _ _ _ _
  refine Leave.ret0 (by kernel_rfl) ?_
  exact ⟨_, rfl, .inl ⟨N, mb, pre, ⟨by omega, by rw [hq, List.take_of_length_le (by omega)]⟩, hJ⟩⟩
end Go.Proofs.YtjleeadiadpiaaaGreatDoor
