import Derived.Test.YtjleeadiadpiaaaGreatDoorK1
set_option linter.unusedVariables false
set_option linter.unusedSimpArgs false
set_option maxRecDepth 10000
namespace Go.Proofs.YtjleeadiadpiaaaGreatDoor
open Go Go.Fx Go.RowKit
def valOk (f : Nat) (l : Str) : Bool := l.all (chB f) && lenIn l 1 200
def risB (l : List Str) (i : Nat) : Bool := decide (i = 0) || sLt (l.getD (i - 1) []) (l.getD i [])
def risesF (l : List Str) : Bool := allI l.length (risB l)
theorem any_find {α : Type} (l : List α) (p : α → Bool) : decide (0 ≤ optI (l.findIdx? p)) = l.any p := by
 cases h : l.findIdx? p with
 | none =>
  rw [List.findIdx?_eq_none_iff] at h
  have : l.any p = false := by rw [List.any_eq_false]; intro x hx; simp [h x hx]
  rw [this]; rfl
 | some k =>
  rw [List.findIdx?_eq_some_iff_getElem] at h
  obtain ⟨hk, hp, _⟩ := h
  have : l.any p = true := List.any_eq_true.2 ⟨_, List.getElem_mem hk, hp⟩
  rw [this]; simp [optI]
noncomputable def c122 : Code := bodyOf Tryz.f122
noncomputable def c122_0 : Code := kid 0 c122
noncomputable def o122_0 : Array Oper := regOps c122_0
noncomputable def c122_1 : Code := kid 1 c122
noncomputable def c122_1_0 : Code := kid 0 c122_1
noncomputable def o122_1_0 : Array Oper := regOps c122_1_0
noncomputable def c122_1_1 : Code := kid 1 c122_1
set_option maxHeartbeats 400000 in
theorem all_ok (a : Option Addr) (n cap : Nat) (w : World)  : Calls Tryz.prog 122 #[.slice a n cap] w (RetW [] w fun v w' => ∃ b, v = .func (.func 149) #[] #[.pointer (some ⟨b, 0, none⟩)] ∧ Blk w' b [.slice a n cap] 178 ∧ w.heap.size ≤ b) := by
 refine calls_of_S (n := 4) (c := c122) Tryz.func122 (by kernel_rfl) (by kernel_rfl) (Nat.le_of_ble_eq_true (by kernel_rfl)) ?_
 have hE0 : Eff [] w w := Eff.refl _ _
 refine S.seq (x := c122_0) (y := c122_1) (by kernel_rfl) ?_
 refine S.reg (ops := o122_0) (js := [0, 1]) (by kernel_rfl) (by kernel_rfl) ?_
 refine L.box [.slice a n cap] (by kernel_rfl : lookAt _ _ _ _ = some ((Op.box 178 (Operand.tmp 0)), some 1)) (by kernel_rfl) ?_
 intro b101 w102 hs103 hz104 E105 B106
 have hE107 := hE0.and0 E105
 have := E105.size
 refine L.runU [1] [] [(2, .nilFunc)] (by kernel_rfl) (by kernel_rfl) ?_
 refine L.done ?_
 show S _ _ _ c122_1 _ _ _ _
 refine S.seq (x := c122_1_0) (y := c122_1_1) (by kernel_rfl) ?_
 refine S.reg (ops := o122_1_0) (js := [0, 1]) (by kernel_rfl) (by kernel_rfl) ?_
 refine L.runU [0, 1] [] [(3, .func (.func 149) #[] #[.pointer (some ⟨b101, 0, none⟩)]), (2, .func (.func 149) #[] #[.pointer (some ⟨b101, 0, none⟩)])] (by kernel_rfl) (by kernel_rfl) ?_
 refine L.done ?_
 show S _ _ _ c122_1_1 _ _ _ _
 refine S.ret (by kernel_rfl) ?_
 show Leave _ _ _ _ _ _ _ _
 refine Leave.ret1 (x := .tmp 2) (.func (.func 149) #[] #[.pointer (some ⟨b101, 0, none⟩)]) (by kernel_rfl) (.ofT (by kernel_rfl)) ?_
 refine ⟨_, rfl, hE107, _, rfl, B106, by omega⟩
noncomputable def c81 : Code := bodyOf Tryz.f81
noncomputable def c81_0 : Code := kid 0 c81
noncomputable def o81_0 : Array Oper := regOps c81_0
noncomputable def c81_1 : Code := kid 1 c81
noncomputable def c81_1_0 : Code := kid 0 c81_1
noncomputable def o81_1_0 : Array Oper := regOps c81_1_0
noncomputable def c81_1_1 : Code := kid 1 c81_1
set_option maxHeartbeats 400000 in
theorem fields_ok (cs : List Value) (c : List (List Str)) (w : World) (h : kCt.R [] w cs c) : Calls Tryz.prog 81 #[.agg (cs).toArray] w (RetW [] w fun v w' => ∃ b b0, v = .func (.func 149) #[] #[.pointer (some ⟨b, 0, none⟩)] ∧ Blk w' b [.slice (some ⟨b0, 0, none⟩) 8 8] 178 ∧ Blk w' b0 cs 32 ∧ w.heap.size ≤ b ∧ w.heap.size ≤ b0 ∧ b ≠ b0) := by
 refine calls_of_S (n := 5) (c := c81) Tryz.func81 (by kernel_rfl) (by kernel_rfl) (Nat.le_of_ble_eq_true (by kernel_rfl)) ?_
 obtain ⟨v101, v102, v103, v104, v105, v106, v107, v108, rfl, C109⟩ := h
 have hE0 : Eff [] w w := Eff.refl _ _
 refine S.seq (x := c81_0) (y := c81_1) (by kernel_rfl) ?_
 refine S.reg (ops := o81_0) (js := [0, 1]) (by kernel_rfl) (by kernel_rfl) ?_
 refine L.box [v101, v102, v103, v104, v105, v106, v107, v108] (by kernel_rfl : lookAt _ _ _ _ = some ((Op.box 32 (Operand.tmp 0)), some 1)) (by kernel_rfl) ?_
 intro b110 w111 hs112 hz113 E114 B115
 have hE116 := hE0.and0 E114
 have := E114.size
 have C117 := Kd.step (Kd.array 8 [] (Kd.slice Kd.str) rfl) C109 same E114 no0
 refine L.runU [1] [] [(2, .nilFunc)] (by kernel_rfl) (by kernel_rfl) ?_
 refine L.done ?_
 show S _ _ _ c81_1 _ _ _ _
 refine S.seq (x := c81_1_0) (y := c81_1_1) (by kernel_rfl) ?_
 refine S.reg (ops := o81_1_0) (js := [0, 1, 2]) (by kernel_rfl) (by kernel_rfl) ?_
 refine L.val (.slice (some ⟨b110, 0, none⟩) 8 8) (by kernel_rfl : lookAt _ _ _ _ = some ((Op.slice 32 (Operand.tmp 1) Option.none Option.none Option.none), some 3)) (by intro c e; cases e) (rx_arrAll (p := ⟨b110, 0, none⟩) (e := 30) (m := 8) (by kernel_rfl) (by kernel_rfl) (by kernel_rfl) (by omega)) ?_
 refine L.call (f := 122) (by kernel_rfl : lookAt _ _ _ _ = some ((Op.call { callee := (Callee.value (Operand.func 122)), args := #[(Operand.tmp 3)], argTypes := #[178] }), some 4)) e122 (by kernel_rfl) (all_ok (some ⟨b110, 0, none⟩) 8 8 _) ?_
 rintro _ w119 E120 ⟨b122, rfl, B123, hb124⟩
 have hE125 := hE116.and0 E120
 have := E120.size
 have C126 := Kd.step (Kd.array 8 [] (Kd.slice Kd.str) rfl) C117 same E120 no0
 have B127 := B115.eff0 E120
 have := B123.lt
 refine L.runU [2] [] [(2, .func (.func 149) #[] #[.pointer (some ⟨b122, 0, none⟩)])] (by kernel_rfl) (by kernel_rfl) ?_
 refine L.done ?_
 show S _ _ _ c81_1_1 _ _ _ _
 refine S.ret (by kernel_rfl) ?_
 show Leave _ _ _ _ _ _ _ _
 refine Leave.ret1 (x := .tmp 2) (.func (.func 149) #[] #[.pointer (some ⟨b122, 0, none⟩)]) (by kernel_rfl) (.ofT (by kernel_rfl)) ?_
 have := B127.lt
 refine ⟨_, rfl, hE125, _, _, rfl, B123, B127, by omega, by omega, by omega⟩
noncomputable def c82 : Code := bodyOf Tryz.f82
noncomputable def c82_0 : Code := kid 0 c82
noncomputable def o82_0 : Array Oper := regOps c82_0
noncomputable def c82_1 : Code := kid 1 c82
noncomputable def c82_1_0 : Code := kid 0 c82_1
noncomputable def o82_1_0 : Array Oper := regOps c82_1_0
noncomputable def c82_1_1 : Code := kid 1 c82_1
set_option maxHeartbeats 400000 in
theorem value_ok (f : Nat) (w : World)  : Calls Tryz.prog 82 #[.int .i64 (((f : Nat) : Int))] w (RetW [] w fun v w' => ∃ b, v = .func (.func 123) #[] #[.pointer (some ⟨b, 0, none⟩)] ∧ Blk w' b [.int .i64 (f : Int)] 3 ∧ w.heap.size ≤ b) := by
 refine calls_of_S (n := 4) (c := c82) Tryz.func82 (by kernel_rfl) (by kernel_rfl) (Nat.le_of_ble_eq_true (by kernel_rfl)) ?_
 have hE0 : Eff [] w w := Eff.refl _ _
 refine S.seq (x := c82_0) (y := c82_1) (by kernel_rfl) ?_
 refine S.reg (ops := o82_0) (js := [0, 1]) (by kernel_rfl) (by kernel_rfl) ?_
 refine L.box [.int .i64 (((f : Nat) : Int))] (by kernel_rfl : lookAt _ _ _ _ = some ((Op.box 3 (Operand.tmp 0)), some 1)) (by kernel_rfl) ?_
 intro b101 w102 hs103 hz104 E105 B106
 have hE107 := hE0.and0 E105
 have := E105.size
 refine L.runU [1] [] [(2, .nilFunc)] (by kernel_rfl) (by kernel_rfl) ?_
 refine L.done ?_
 show S _ _ _ c82_1 _ _ _ _
 refine S.seq (x := c82_1_0) (y := c82_1_1) (by kernel_rfl) ?_
 refine S.reg (ops := o82_1_0) (js := [0, 1]) (by kernel_rfl) (by kernel_rfl) ?_
 refine L.runU [0, 1] [] [(3, .func (.func 123) #[] #[.pointer (some ⟨b101, 0, none⟩)]), (2, .func (.func 123) #[] #[.pointer (some ⟨b101, 0, none⟩)])] (by kernel_rfl) (by kernel_rfl) ?_
 refine L.done ?_
 show S _ _ _ c82_1_1 _ _ _ _
 refine S.ret (by kernel_rfl) ?_
 show Leave _ _ _ _ _ _ _ _
 refine Leave.ret1 (x := .tmp 2) (.func (.func 123) #[] #[.pointer (some ⟨b101, 0, none⟩)]) (by kernel_rfl) (.ofT (by kernel_rfl)) ?_
 refine ⟨_, rfl, hE107, _, rfl, B106, by omega⟩
noncomputable def c123 : Code := bodyOf Tryz.f123
noncomputable def c123_0 : Code := kid 0 c123
noncomputable def o123_0 : Array Oper := regOps c123_0
noncomputable def c123_1 : Code := kid 1 c123
noncomputable def c123_1_0 : Code := kid 0 c123_1
noncomputable def c123_1_0_0 : Code := kid 0 c123_1_0
noncomputable def o123_1_0_0 : Array Oper := regOps c123_1_0_0
noncomputable def c123_1_0_1 : Code := kid 1 c123_1_0
noncomputable def c123_n6 : Code := kid 0 c123_1_0_1
noncomputable def c123_n7 : Code := kid 0 c123_n6
noncomputable def c123_n8 : Code := kid 0 c123_n7
noncomputable def o123_n8 : Array Oper := regOps c123_n8
noncomputable def c123_n9 : Code := kid 1 c123_n7
noncomputable def c123_n10 : Code := kid 0 c123_n9
noncomputable def c123_n11 : Code := kid 0 c123_n10
noncomputable def c123_n12 : Code := kid 1 c123_n10
noncomputable def c123_n13 : Code := kid 1 c123_n9
noncomputable def c123_n14 : Code := kid 0 c123_n13
noncomputable def c123_n15 : Code := kid 0 c123_n14
noncomputable def c123_n16 : Code := kid 0 c123_n15
noncomputable def o123_n16 : Array Oper := regOps c123_n16
noncomputable def c123_n17 : Code := kid 1 c123_n15
noncomputable def c123_n18 : Code := kid 0 c123_n17
noncomputable def o123_n18 : Array Oper := regOps c123_n18
noncomputable def c123_n19 : Code := kid 1 c123_n17
noncomputable def c123_n20 : Code := kid 0 c123_n19
noncomputable def c123_n21 : Code := kid 0 c123_n20
noncomputable def o123_n21 : Array Oper := regOps c123_n21
noncomputable def c123_n22 : Code := kid 1 c123_n20
noncomputable def c123_n23 : Code := kid 1 c123_n19
noncomputable def c123_n24 : Code := kid 1 c123_n13
noncomputable def o123_n24 : Array Oper := regOps c123_n24
noncomputable def c123_1_1 : Code := kid 1 c123_1
noncomputable def c123_1_1_0 : Code := kid 0 c123_1_1
noncomputable def o123_1_1_0 : Array Oper := regOps c123_1_1_0
noncomputable def c123_1_1_1 : Code := kid 1 c123_1_1
set_option maxHeartbeats 400000 in
theorem val123_ok (l : Str) (b f : Nat) (w : World) (hl : l.length < 4611686018427387904) (hB : Blk w b [.int .i64 (f : Int)] 3) : Calls Tryz.prog 123 #[sv l, .pointer (some ⟨b, 0, none⟩)] w (RetW [] w fun v _ => v = .bool (valOk f l)) := by
 refine calls_of_S (n := 32) (c := c123) Tryz.func123 (by kernel_rfl) (by kernel_rfl) (Nat.le_of_ble_eq_true (by kernel_rfl)) ?_
 have hE0 : Eff [] w w := Eff.refl _ _
 refine S.seq (x := c123_0) (y := c123_1) (by kernel_rfl) ?_
 refine S.reg (ops := o123_0) (js := [0]) (by kernel_rfl) (by kernel_rfl) ?_
 refine L.runU [0] [] [(3, .bool false)] (by kernel_rfl) (by kernel_rfl) ?_
 refine L.done ?_
 show S _ _ _ c123_1 _ _ _ _
 refine S.seq (x := c123_1_0) (y := c123_1_1) (by kernel_rfl) ?_
 refine S.seq (x := c123_1_0_0) (y := c123_1_0_1) (by kernel_rfl) ?_
 refine S.reg (ops := o123_1_0_0) (js := [0, 1, 2, 3]) (by kernel_rfl) (by kernel_rfl) ?_
 refine L.runU [0] [1, 2, 3] [(6, sv l)] (by kernel_rfl) (by kernel_rfl) ?_
 refine L.bytes (e := 5) (u := .string) l (by kernel_rfl : lookAt _ _ _ _ = some ((Op.convert 9 128 (Operand.tmp 6)), some 7)) (by kernel_rfl) (by kernel_rfl) (by kernel_rfl) (by kernel_rfl) ?_
 intro b101 cap102 rest103 w104 hs105 hz106 E107 B108 hc109
 have hE110 := hE0.and0 E107
 have := E107.size
 have B111 := hB.eff0 E107
 refine L.runU [2, 3] [] [(8, .int .i64 (((l.length : Nat) : Int))), (9, .int .i64 0)] (by kernel_rfl) (by kernel_rfl) ?_
 refine L.done ?_
 show S _ _ _ c123_1_0_1 _ _ _ _
 refine S.block (id := 0) (x := c123_n6) (by kernel_rfl) ?_
 refine S.loop (x := c123_n7) (fun m σ' ds' w' => ∃ (k : Nat), m = l.length - k ∧ (k ≤ l.length) ∧ ((l.take k).all (chB f) = true) ∧ w104 = w' ∧ ds' = [] ∧ ∃ u, σ' = slots u [(0, sv l), (1, .pointer (some ⟨b, 0, none⟩)), (3, .bool false), (7, .slice (some ⟨b101, 0, none⟩) l.length cap102), (8, .int .i64 (((l.length : Nat) : Int))), (9, .int .i64 (((k : Nat) : Int)))]) (l.length - 0) (by kernel_rfl) ⟨0, rfl, (by omega), (by rfl), rfl, rfl, _, Holds.eq (l := [(0, sv l), (1, .pointer (some ⟨b, 0, none⟩)), (3, .bool false), (7, .slice (some ⟨b101, 0, none⟩) l.length cap102), (8, .int .i64 (((l.length : Nat) : Int))), (9, .int .i64 0)]) ⟨by kernel_rfl, by kernel_rfl, by kernel_rfl, by kernel_rfl, by kernel_rfl, by kernel_rfl, trivial⟩⟩ ?_
 rintro m113 σ' ds' w' ⟨k, hm115, hk, ha, rfl, rfl, u114, rfl⟩
 refine S.seq (x := c123_n8) (y := c123_n9) (by kernel_rfl) ?_
 refine S.reg (ops := o123_n8) (js := [0]) (by kernel_rfl) (by kernel_rfl) ?_
 refine L.runU [0] [] [(10, .bool (decide (((k : Nat) : Int) < ((l.length : Nat) : Int))))] (by kernel_rfl) (by kernel_rfl) ?_
 refine L.done ?_
 show S _ _ _ c123_n9 _ _ _ _
 refine S.seq (x := c123_n10) (y := c123_n13) (by kernel_rfl) ?_
 refine S.condP (((k : Nat) : Int) < ((l.length : Nat) : Int)) (o := (Operand.tmp 10)) (x := c123_n11) (y := c123_n12) (by kernel_rfl) (by kernel_rfl) (fun h116 => ?_) (fun h116 => ?_)
 ·refine S.skip (by kernel_rfl) ?_
  show S _ _ _ c123_n13 _ _ _ _
  refine S.seq (x := c123_n14) (y := c123_n24) (by kernel_rfl) ?_
  refine S.block (id := 1) (x := c123_n15) (by kernel_rfl) ?_
  refine S.seq (x := c123_n16) (y := c123_n17) (by kernel_rfl) ?_
  refine S.reg (ops := o123_n16) (js := [0, 1, 2]) (by kernel_rfl) (by kernel_rfl) ?_
  obtain ⟨x118, hx119⟩ : ∃ x, (l)[k]? = some x := ⟨_, List.getElem?_eq_getElem (by omega)⟩
  have A117 : CAt [] w104 ((⟨b101, 0, none⟩ : Addr).add k) [bv x118] := .ofByte B108 hx119
  have := x118.toNat_lt
  refine L.val (.pointer (some ((⟨b101, 0, none⟩ : Addr).add k))) (by kernel_rfl : lookAt _ _ _ _ = some ((Op.indexAddr 128 (Operand.tmp 7) (Operand.tmp 9)), some 11)) (by intro c e; cases e) (rx_indexAddr (e := 5) (sz := 1) (a := some ⟨b101, 0, none⟩) (p := (⟨b101, 0, none⟩ : Addr)) (len := l.length) (cap := cap102) (kk := .i64) (i := ((k : Nat) : Int)) k k (by kernel_rfl) (by kernel_rfl) (by kernel_rfl) (by kernel_rfl) (by kernel_rfl) (by omega) (by omega) (by omega)) ?_
  refine L.val (.int .u8 (x118.toNat : Int)) (by kernel_rfl : lookAt _ _ _ _ = some ((Op.load 5 (Operand.tmp 11)), some 12)) (by intro c e; cases e) (rx_load 0 (.int .u8 (x118.toNat : Int)) (A117.1) (by kernel_rfl) (by kernel_rfl)) ?_
  refine L.runU [2] [] [(5, .int .u8 (x118.toNat : Int))] (by kernel_rfl) (by kernel_rfl) ?_
  refine L.done ?_
  show S _ _ _ c123_n17 _ _ _ _
  refine S.seq (x := c123_n18) (y := c123_n19) (by kernel_rfl) ?_
  refine S.reg (ops := o123_n18) (js := [0, 1, 2, 3, 4, 5, 6, 7, 8, 9]) (by kernel_rfl) (by kernel_rfl) ?_
  refine L.runU [0, 1, 2] [3, 4, 5, 6, 7, 8, 9] [(13, .int .u8 (x118.toNat : Int)), (14, .bool (decide ((x118.toNat : Int) < 32))), (15, .bool (decide ((x118.toNat : Int) < 32)))] (by kernel_rfl) (by kernel_rfl) ?_
  refine X.splitP (G := fun σ => L _ _ _ _ _ _ σ _ _) ((x118.toNat : Int) < 32) 15 (by kernel_rfl) (fun h120 => ?_) (fun h120 => ?_)
  ·refine L.runU [3, 4, 5] [6, 7, 8, 9] [(16, .int .u8 (x118.toNat : Int)), (17, .bool (!decide ((x118.toNat : Int) = 10))), (18, .bool (!decide ((x118.toNat : Int) = 10)))] (by kernel_rfl) (by kernel_rfl) ?_
   refine X.splitN (G := fun σ => L _ _ _ _ _ _ σ _ _) ((x118.toNat : Int) = 10) 18 (by kernel_rfl) (fun h121 => ?_) (fun h121 => ?_)
   ·refine L.runU [6, 7, 8, 9] [] [(19, undef), (20, undef), (21, .bool true), (22, .bool true)] (by kernel_rfl) (by kernel_rfl) ?_
    refine L.done ?_
    show S _ _ _ c123_n19 _ _ _ _
    refine S.condT (o := (Operand.tmp 22)) (x := c123_n20) (y := c123_n23) (by kernel_rfl) (by kernel_rfl) ?_
    refine S.seq (x := c123_n21) (y := c123_n22) (by kernel_rfl) ?_
    refine S.reg (ops := o123_n21) (js := [0]) (by kernel_rfl) (by kernel_rfl) ?_
    refine L.runU [0] [] [(3, .bool false)] (by kernel_rfl) (by kernel_rfl) ?_
    refine L.done ?_
    show S _ _ _ c123_n22 _ _ _ _
    refine S.ret (by kernel_rfl) ?_
    show Leave _ _ _ _ _ _ _ _
    refine Leave.ret1 (x := .tmp 3) (.bool false) (by kernel_rfl) (.ofT (by kernel_rfl)) ?_
    refine ⟨_, rfl, hE110, ?_⟩
    first | exact bool_eq (by rw [valOk, all_full ha (by omega)]; (first | rfl | (rw [Bool.eq_iff_iff]; simp only [lenIn, Bool.and_eq_true, Bool.or_eq_true, Bool.not_eq_true', decide_eq_true_eq, decide_eq_false_iff_not, Bool.and_true, Bool.true_and, Bool.and_false, Bool.false_and, Bool.or_true, Bool.true_or, Bool.or_false, Bool.false_or, Bool.not_true, Bool.not_false, Bool.false_eq_true, false_iff, iff_false, true_iff, iff_true, eq_self_iff_true, not_true_eq_false, not_false_eq_true]; omega) | (grind [lenIn]) | (simp [lenIn]; done) | (rw [Bool.eq_iff_iff]; simp [lenIn]; done) | (rw [Bool.eq_iff_iff]; simp [lenIn]; omega) | (simp_all [lenIn]; done) | (rw [Bool.eq_iff_iff]; simp_all [lenIn]; done) | (rw [Bool.eq_iff_iff]; simp_all [lenIn]; omega))) | exact bool_eq (by simp only [valOk, all_bad (p := chB f) ‹_› (by first | (simp [chB]; omega) | (simp_all [chB]; done) | (simp_all [chB]; omega)), Bool.false_and, Bool.and_false])
   ·refine L.val (.int .i64 (((f : Nat) : Int))) (by kernel_rfl : lookAt _ _ _ _ = some ((Op.load 3 (Operand.tmp 1)), some 19)) (by intro c e; cases e) (rx_load 0 (.int .i64 (((f : Nat) : Int))) (B111.cells) (by kernel_rfl) (by kernel_rfl)) ?_
    refine L.runU [7, 8, 9] [] [(20, .bool (!decide (((f : Nat) : Int) = 5))), (21, .bool (!decide (((f : Nat) : Int) = 5))), (22, .bool (!decide (((f : Nat) : Int) = 5)))] (by kernel_rfl) (by kernel_rfl) ?_
    refine L.done ?_
    show S _ _ _ c123_n19 _ _ _ _
    refine S.condN (((f : Nat) : Int) = 5) (o := (Operand.tmp 22)) (x := c123_n20) (y := c123_n23) (by kernel_rfl) (by kernel_rfl) (fun h122 => ?_) (fun h122 => ?_)
    ·refine S.seq (x := c123_n21) (y := c123_n22) (by kernel_rfl) ?_
     refine S.reg (ops := o123_n21) (js := [0]) (by kernel_rfl) (by kernel_rfl) ?_
     refine L.runU [0] [] [(3, .bool false)] (by kernel_rfl) (by kernel_rfl) ?_
     refine L.done ?_
     show S _ _ _ c123_n22 _ _ _ _
     refine S.ret (by kernel_rfl) ?_
     show Leave _ _ _ _ _ _ _ _
     refine Leave.ret1 (x := .tmp 3) (.bool false) (by kernel_rfl) (.ofT (by kernel_rfl)) ?_
     refine ⟨_, rfl, hE110, ?_⟩
     first | exact bool_eq (by rw [valOk, all_full ha (by omega)]; (first | rfl | (rw [Bool.eq_iff_iff]; simp only [lenIn, Bool.and_eq_true, Bool.or_eq_true, Bool.not_eq_true', decide_eq_true_eq, decide_eq_false_iff_not, Bool.and_true, Bool.true_and, Bool.and_false, Bool.false_and, Bool.or_true, Bool.true_or, Bool.or_false, Bool.false_or, Bool.not_true, Bool.not_false, Bool.false_eq_true, false_iff, iff_false, true_iff, iff_true, eq_self_iff_true, not_true_eq_false, not_false_eq_true]; omega) | (grind [lenIn]) | (simp [lenIn]; done) | (rw [Bool.eq_iff_iff]; simp [lenIn]; done) | (rw [Bool.eq_iff_iff]; simp [lenIn]; omega) | (simp_all [lenIn]; done) | (rw [Bool.eq_iff_iff]; simp_all [lenIn]; done) | (rw [Bool.eq_iff_iff]; simp_all [lenIn]; omega))) | exact bool_eq (by simp only [valOk, all_bad (p := chB f) ‹_› (by first | (simp [chB]; omega) | (simp_all [chB]; done) | (simp_all [chB]; omega)), Bool.false_and, Bool.and_false])
    ·refine S.skip (by kernel_rfl) ?_
     show S _ _ _ c123_n24 _ _ _ _
     refine S.reg (ops := o123_n24) (js := [0, 1]) (by kernel_rfl) (by kernel_rfl) ?_
     refine L.runU [0] [1] [(23, .int .i64 (IntKind.i64.wrap (((k : Nat) : Int) + 1)))] (by kernel_rfl) (by kernel_rfl) ?_
     refine X.re64 (G := fun σ => L _ _ _ _ _ _ σ _ _) (d := 23) (((k : Nat) : Int) + 1) (((k + 1 : Nat) : Int)) (by kernel_rfl) (by omega) ?_
     refine L.runU [1] [] [(9, .int .i64 (((k + 1 : Nat) : Int)))] (by kernel_rfl) (by kernel_rfl) ?_
     refine L.done ?_
     show ∃ m', m' < _ ∧ _
     refine ⟨l.length - (k + 1), ?_, ⟨k + 1, rfl, (by omega), (by exact all_snoc ha (by assumption) (by first | (simp [chB]; omega) | (simp_all [chB]; done) | (simp_all [chB]; omega))), rfl, rfl, _, Holds.eq (l := [(0, sv l), (1, .pointer (some ⟨b, 0, none⟩)), (3, .bool false), (7, .slice (some ⟨b101, 0, none⟩) l.length cap102), (8, .int .i64 (((l.length : Nat) : Int))), (9, .int .i64 (((k + 1 : Nat) : Int)))]) ⟨by kernel_rfl, by kernel_rfl, by kernel_rfl, by kernel_rfl, by kernel_rfl, by kernel_rfl, trivial⟩⟩⟩
     omega
  ·refine L.runU [3, 4, 5, 6, 7, 8, 9] [] [(16, undef), (17, undef), (18, undef), (19, undef), (20, undef), (21, undef), (22, .bool false)] (by kernel_rfl) (by kernel_rfl) ?_
   refine L.done ?_
   show S _ _ _ c123_n19 _ _ _ _
   refine S.condF (o := (Operand.tmp 22)) (x := c123_n20) (y := c123_n23) (by kernel_rfl) (by kernel_rfl) ?_
   refine S.skip (by kernel_rfl) ?_
   show S _ _ _ c123_n24 _ _ _ _
   refine S.reg (ops := o123_n24) (js := [0, 1]) (by kernel_rfl) (by kernel_rfl) ?_
   refine L.runU [0] [1] [(23, .int .i64 (IntKind.i64.wrap (((k : Nat) : Int) + 1)))] (by kernel_rfl) (by kernel_rfl) ?_
   refine X.re64 (G := fun σ => L _ _ _ _ _ _ σ _ _) (d := 23) (((k : Nat) : Int) + 1) (((k + 1 : Nat) : Int)) (by kernel_rfl) (by omega) ?_
   refine L.runU [1] [] [(9, .int .i64 (((k + 1 : Nat) : Int)))] (by kernel_rfl) (by kernel_rfl) ?_
   refine L.done ?_
   show ∃ m', m' < _ ∧ _
   refine ⟨l.length - (k + 1), ?_, ⟨k + 1, rfl, (by omega), (by exact all_snoc ha (by assumption) (by first | (simp [chB]; omega) | (simp_all [chB]; done) | (simp_all [chB]; omega))), rfl, rfl, _, Holds.eq (l := [(0, sv l), (1, .pointer (some ⟨b, 0, none⟩)), (3, .bool false), (7, .slice (some ⟨b101, 0, none⟩) l.length cap102), (8, .int .i64 (((l.length : Nat) : Int))), (9, .int .i64 (((k + 1 : Nat) : Int)))]) ⟨by kernel_rfl, by kernel_rfl, by kernel_rfl, by kernel_rfl, by kernel_rfl, by kernel_rfl, trivial⟩⟩⟩
   omega
 ·refine S.exit (id := 0) (by kernel_rfl) ?_
  show S _ _ _ c123_1_1 _ _ _ _
  refine S.seq (x := c123_1_1_0) (y := c123_1_1_1) (by kernel_rfl) ?_
  refine S.reg (ops := o123_1_1_0) (js := [0, 1, 2, 3, 4, 5, 6, 7, 8]) (by kernel_rfl) (by kernel_rfl) ?_
  refine L.runU [0, 1, 2, 3] [4, 5, 6, 7, 8] [(24, sv l), (25, .int .i64 (((l.length : Nat) : Int))), (26, .bool (decide (1 ≤ ((l.length : Nat) : Int)))), (27, .bool (decide (1 ≤ ((l.length : Nat) : Int))))] (by kernel_rfl) (by kernel_rfl) ?_
  refine X.splitP (G := fun σ => L _ _ _ _ _ _ σ _ _) (1 ≤ ((l.length : Nat) : Int)) 27 (by kernel_rfl) (fun h123 => ?_) (fun h123 => ?_)
  ·refine L.runU [4, 5, 6, 7, 8] [] [(28, sv l), (29, .int .i64 (((l.length : Nat) : Int))), (30, .bool (decide (((l.length : Nat) : Int) ≤ 200))), (31, .bool (decide (((l.length : Nat) : Int) ≤ 200))), (3, .bool (decide (((l.length : Nat) : Int) ≤ 200)))] (by kernel_rfl) (by kernel_rfl) ?_
   refine L.done ?_
   show S _ _ _ c123_1_1_1 _ _ _ _
   refine S.ret (by kernel_rfl) ?_
   show Leave _ _ _ _ _ _ _ _
   refine Leave.ret1 (x := .tmp 3) (.bool (decide (((l.length : Nat) : Int) ≤ 200))) (by kernel_rfl) (.ofT (by kernel_rfl)) ?_
   refine ⟨_, rfl, hE110, ?_⟩
   first | exact bool_eq (by rw [valOk, all_full ha (by omega)]; (first | rfl | (rw [Bool.eq_iff_iff]; simp only [lenIn, Bool.and_eq_true, Bool.or_eq_true, Bool.not_eq_true', decide_eq_true_eq, decide_eq_false_iff_not, Bool.and_true, Bool.true_and, Bool.and_false, Bool.false_and, Bool.or_true, Bool.true_or, Bool.or_false, Bool.false_or, Bool.not_true, Bool.not_false, Bool.false_eq_true, false_iff, iff_false, true_iff, iff_true, eq_self_iff_true, not_true_eq_false, not_false_eq_true]; omega) | (grind [lenIn]) | (simp [lenIn]; done) | (rw [Bool.eq_iff_iff]; simp [lenIn]; done) | (rw [Bool.eq_iff_iff]; simp [lenIn]; omega) | (simp_all [lenIn]; done) | (rw [Bool.eq_iff_iff]; simp_all [lenIn]; done) | (rw [Bool.eq_iff_iff]; simp_all [lenIn]; omega))) | exact bool_eq (by simp only [valOk, all_bad (p := chB f) ‹_› (by first | (simp [chB]; omega) | (simp_all [chB]; done) | (simp_all [chB]; omega)), Bool.false_and, Bool.and_false])
  ·refine L.runU [4, 5, 6, 7, 8] [] [(28, undef), (29, undef), (30, undef), (31, .bool false), (3, .bool false)] (by kernel_rfl) (by kernel_rfl) ?_
   refine L.done ?_
   show S _ _ _ c123_1_1_1 _ _ _ _
   refine S.ret (by kernel_rfl) ?_
   show Leave _ _ _ _ _ _ _ _
   refine Leave.ret1 (x := .tmp 3) (.bool false) (by kernel_rfl) (.ofT (by kernel_rfl)) ?_
   refine ⟨_, rfl, hE110, ?_⟩
   first | exact bool_eq (by rw [valOk, all_full ha (by omega)]; (first | rfl | (rw [Bool.eq_iff_iff]; simp only [lenIn, Bool.and_eq_true, Bool.or_eq_true, Bool.not_eq_true', decide_eq_true_eq, decide_eq_false_iff_not, Bool.and_true, Bool.true_and, Bool.and_false, Bool.false_and, Bool.or_true, Bool.true_or, Bool.or_false, Bool.false_or, Bool.not_true, Bool.not_false, Bool.false_eq_true, false_iff, iff_false, true_iff, iff_true, eq_self_iff_true, not_true_eq_false, not_false_eq_true]; omega) | (grind [lenIn]) | (simp [lenIn]; done) | (rw [Bool.eq_iff_iff]; simp [lenIn]; done) | (rw [Bool.eq_iff_iff]; simp [lenIn]; omega) | (simp_all [lenIn]; done) | (rw [Bool.eq_iff_iff]; simp_all [lenIn]; done) | (rw [Bool.eq_iff_iff]; simp_all [lenIn]; omega))) | exact bool_eq (by simp only [valOk, all_bad (p := chB f) ‹_› (by first | (simp [chB]; omega) | (simp_all [chB]; done) | (simp_all [chB]; omega)), Bool.false_and, Bool.and_false])
noncomputable def c85 : Code := bodyOf Tryz.f85
noncomputable def c85_0 : Code := kid 0 c85
noncomputable def o85_0 : Array Oper := regOps c85_0
noncomputable def c85_1 : Code := kid 1 c85
noncomputable def c85_1_0 : Code := kid 0 c85_1
noncomputable def o85_1_0 : Array Oper := regOps c85_1_0
noncomputable def c85_1_1 : Code := kid 1 c85_1
set_option maxHeartbeats 400000 in
theorem chk85_ok (l : Str) (c b f : Nat) (w : World) (hl : l.length < 4611686018427387904) (hC : Blk w c [.func (.func 123) #[] #[.pointer (some ⟨b, 0, none⟩)]] 75) (hB : Blk w b [.int .i64 (f : Int)] 3) : Calls Tryz.prog 85 #[sv l, .pointer (some ⟨c, 0, none⟩)] w (RetW [] w fun v _ => v = .bool (!valOk f l)) := by
 refine calls_of_S (n := 8) (c := c85) Tryz.func85 (by kernel_rfl) (by kernel_rfl) (Nat.le_of_ble_eq_true (by kernel_rfl)) ?_
 have hE0 : Eff [] w w := Eff.refl _ _
 refine S.seq (x := c85_0) (y := c85_1) (by kernel_rfl) ?_
 refine S.reg (ops := o85_0) (js := [0]) (by kernel_rfl) (by kernel_rfl) ?_
 refine L.runU [0] [] [(3, .bool false)] (by kernel_rfl) (by kernel_rfl) ?_
 refine L.done ?_
 show S _ _ _ c85_1 _ _ _ _
 refine S.seq (x := c85_1_0) (y := c85_1_1) (by kernel_rfl) ?_
 refine S.reg (ops := o85_1_0) (js := [0, 1, 2, 3, 4]) (by kernel_rfl) (by kernel_rfl) ?_
 refine L.val (.func (.func 123) #[] #[.pointer (some ⟨b, 0, none⟩)]) (by kernel_rfl : lookAt _ _ _ _ = some ((Op.load 75 (Operand.tmp 1)), some 4)) (by intro c e; cases e) (rx_load 0 (.func (.func 123) #[] #[.pointer (some ⟨b, 0, none⟩)]) (hC.cells) (by kernel_rfl) (by kernel_rfl)) ?_
 refine L.runU [1] [2, 3, 4] [(5, sv l)] (by kernel_rfl) (by kernel_rfl) ?_
 refine L.call (f := 123) (by kernel_rfl : lookAt _ _ _ _ = some ((Op.call { callee := (Callee.value (Operand.tmp 4)), args := #[(Operand.tmp 5)], argTypes := #[9] }), some 6)) e123 (by kernel_rfl) (val123_ok l b f _ (by omega) hB) ?_
 rintro _ w102 E103 rfl
 have hE105 := hE0.and0 E103
 have := E103.size
 have B106 := hC.eff0 E103
 have B107 := hB.eff0 E103
 refine L.runU [3, 4] [] [(7, .bool (!(valOk f l))), (3, .bool (!(valOk f l)))] (by kernel_rfl) (by kernel_rfl) ?_
 refine L.done ?_
 show S _ _ _ c85_1_1 _ _ _ _
 refine S.ret (by kernel_rfl) ?_
 show Leave _ _ _ _ _ _ _ _
 refine Leave.ret1 (x := .tmp 3) (.bool (!(valOk f l))) (by kernel_rfl) (.ofT (by kernel_rfl)) ?_
 refine ⟨_, rfl, hE105, ?_⟩
 rfl
noncomputable def c124 : Code := bodyOf Tryz.f124
noncomputable def c124_0 : Code := kid 0 c124
noncomputable def o124_0 : Array Oper := regOps c124_0
noncomputable def c124_1 : Code := kid 1 c124
noncomputable def c124_1_0 : Code := kid 0 c124_1
noncomputable def c124_1_0_0 : Code := kid 0 c124_1_0
noncomputable def o124_1_0_0 : Array Oper := regOps c124_1_0_0
noncomputable def c124_1_0_1 : Code := kid 1 c124_1_0
noncomputable def c124_n6 : Code := kid 0 c124_1_0_1
noncomputable def c124_n7 : Code := kid 0 c124_n6
noncomputable def c124_n8 : Code := kid 0 c124_n7
noncomputable def o124_n8 : Array Oper := regOps c124_n8
noncomputable def c124_n9 : Code := kid 1 c124_n7
noncomputable def c124_n10 : Code := kid 0 c124_n9
noncomputable def c124_n11 : Code := kid 0 c124_n10
noncomputable def c124_n12 : Code := kid 1 c124_n10
noncomputable def c124_n13 : Code := kid 1 c124_n9
noncomputable def c124_n14 : Code := kid 0 c124_n13
noncomputable def c124_n15 : Code := kid 0 c124_n14
noncomputable def c124_n16 : Code := kid 0 c124_n15
noncomputable def o124_n16 : Array Oper := regOps c124_n16
noncomputable def c124_n17 : Code := kid 1 c124_n15
noncomputable def c124_n18 : Code := kid 0 c124_n17
noncomputable def o124_n18 : Array Oper := regOps c124_n18
noncomputable def c124_n19 : Code := kid 1 c124_n17
noncomputable def c124_n20 : Code := kid 0 c124_n19
noncomputable def c124_n21 : Code := kid 0 c124_n20
noncomputable def o124_n21 : Array Oper := regOps c124_n21
noncomputable def c124_n22 : Code := kid 1 c124_n20
noncomputable def c124_n23 : Code := kid 1 c124_n19
noncomputable def c124_n24 : Code := kid 1 c124_n13
noncomputable def o124_n24 : Array Oper := regOps c124_n24
noncomputable def c124_1_1 : Code := kid 1 c124_1
noncomputable def c124_1_1_0 : Code := kid 0 c124_1_1
noncomputable def o124_1_1_0 : Array Oper := regOps c124_1_1_0
noncomputable def c124_1_1_1 : Code := kid 1 c124_1_1
set_option maxHeartbeats 400000 in
theorem ix124_ok (a : Option Addr) (cap : Nat) (l : List Str) (F : Value) (p : Str → Bool) (w : World) (h : Sl Kd.str [] w a l) (hF : ∀ w' x, x.length < 4611686018427387904 → Eff [] w w' → CallV Tryz.prog F [sv x] w' (RetW [] w' fun v _ => v = .bool (p x))) : Calls Tryz.prog 124 #[.slice a l.length cap, F] w (RetW [] w fun v _ => v = .int .i64 (optI (l.findIdx? p))) := by
 refine calls_of_S (n := 19) (c := c124) Tryz.func124 (by kernel_rfl) (by kernel_rfl) (Nat.le_of_ble_eq_true (by kernel_rfl)) ?_
 have hl := h.1
 have hE0 : Eff [] w w := Eff.refl _ _
 refine S.seq (x := c124_0) (y := c124_1) (by kernel_rfl) ?_
 refine S.reg (ops := o124_0) (js := [0]) (by kernel_rfl) (by kernel_rfl) ?_
 refine L.runU [0] [] [(4, .int .i64 0)] (by kernel_rfl) (by kernel_rfl) ?_
 refine L.done ?_
 show S _ _ _ c124_1 _ _ _ _
 refine S.seq (x := c124_1_0) (y := c124_1_1) (by kernel_rfl) ?_
 refine S.seq (x := c124_1_0_0) (y := c124_1_0_1) (by kernel_rfl) ?_
 refine S.reg (ops := o124_1_0_0) (js := [0, 1, 2]) (by kernel_rfl) (by kernel_rfl) ?_
 refine L.runU [0, 1, 2] [] [(6, .slice a l.length cap), (7, .int .i64 (((l.length : Nat) : Int))), (8, .int .i64 0)] (by kernel_rfl) (by kernel_rfl) ?_
 refine L.done ?_
 show S _ _ _ c124_1_0_1 _ _ _ _
 refine S.block (id := 0) (x := c124_n6) (by kernel_rfl) ?_
 refine S.loop (x := c124_n7) (fun m σ' ds' w' => ∃ (k : Nat), m = l.length - k ∧ (k ≤ l.length) ∧ (∀ j y, j < k → l[j]? = some y → p y = false) ∧ Sl Kd.str [] w' a l ∧ Eff [] w w' ∧ w.heap.size ≤ w'.heap.size ∧ ds' = [] ∧ ∃ u, σ' = slots u [(0, .slice a l.length cap), (1, F), (7, .int .i64 (((l.length : Nat) : Int))), (8, .int .i64 (((k : Nat) : Int)))]) (l.length - 0) (by kernel_rfl) ⟨0, rfl, (by omega), (by exact find_none), h, hE0, (Nat.le_refl _), rfl, _, Holds.eq (l := [(0, .slice a l.length cap), (1, F), (7, .int .i64 (((l.length : Nat) : Int))), (8, .int .i64 0)]) ⟨by kernel_rfl, by kernel_rfl, by kernel_rfl, by kernel_rfl, trivial⟩⟩ ?_
 rintro m102 σ' ds' w101 ⟨k, hm104, hk, ha, F105, hE106, hz107, rfl, u103, rfl⟩
 refine S.seq (x := c124_n8) (y := c124_n9) (by kernel_rfl) ?_
 refine S.reg (ops := o124_n8) (js := [0]) (by kernel_rfl) (by kernel_rfl) ?_
 refine L.runU [0] [] [(9, .bool (decide (((k : Nat) : Int) < ((l.length : Nat) : Int))))] (by kernel_rfl) (by kernel_rfl) ?_
 refine L.done ?_
 show S _ _ _ c124_n9 _ _ _ _
 refine S.seq (x := c124_n10) (y := c124_n13) (by kernel_rfl) ?_
 refine S.condP (((k : Nat) : Int) < ((l.length : Nat) : Int)) (o := (Operand.tmp 9)) (x := c124_n11) (y := c124_n12) (by kernel_rfl) (by kernel_rfl) (fun h108 => ?_) (fun h108 => ?_)
 ·refine S.skip (by kernel_rfl) ?_
  show S _ _ _ c124_n13 _ _ _ _
  refine S.seq (x := c124_n14) (y := c124_n24) (by kernel_rfl) ?_
  refine S.block (id := 1) (x := c124_n15) (by kernel_rfl) ?_
  refine S.seq (x := c124_n16) (y := c124_n17) (by kernel_rfl) ?_
  refine S.reg (ops := o124_n16) (js := [0, 1]) (by kernel_rfl) (by kernel_rfl) ?_
  refine L.runU [0, 1] [] [(10, .int .i64 (((k : Nat) : Int))), (5, .int .i64 (((k : Nat) : Int)))] (by kernel_rfl) (by kernel_rfl) ?_
  refine L.done ?_
  show S _ _ _ c124_n17 _ _ _ _
  refine S.seq (x := c124_n18) (y := c124_n19) (by kernel_rfl) ?_
  refine S.reg (ops := o124_n18) (js := [0, 1, 2, 3, 4, 5]) (by kernel_rfl) (by kernel_rfl) ?_
  refine L.runU [0, 1, 2] [3, 4, 5] [(11, F), (12, .slice a l.length cap), (13, .int .i64 (((k : Nat) : Int)))] (by kernel_rfl) (by kernel_rfl) ?_
  obtain ⟨x112, hx113⟩ : ∃ x, (l)[k]? = some x := ⟨_, List.getElem?_eq_getElem (by omega)⟩
  obtain ⟨p109, _, hp110, A111, ⟨rfl, hl114⟩⟩ := F105.open_ hx113
  have A115 : CAt ([]) w101 (p109.add k) [sv x112] := by have h := A111; rw [show k * (Kd.str).sz = k from Nat.mul_one _] at h; exact h
  refine L.val (.pointer (some (p109.add k))) (by kernel_rfl : lookAt _ _ _ _ = some ((Op.indexAddr 30 (Operand.tmp 12) (Operand.tmp 13)), some 14)) (by intro c e; cases e) (rx_indexAddr (e := 9) (sz := 1) (a := a) (p := p109) (len := l.length) (cap := cap) (kk := .i64) (i := ((k : Nat) : Int)) k k (by kernel_rfl) hp110 (by kernel_rfl) (by kernel_rfl) (by kernel_rfl) (by omega) (by omega) (by omega)) ?_
  refine L.val (sv x112) (by kernel_rfl : lookAt _ _ _ _ = some ((Op.load 9 (Operand.tmp 14)), some 15)) (by intro c e; cases e) (rx_load 0 (sv x112) (A115.1) (by kernel_rfl) (by kernel_rfl)) ?_
  refine L.callV (Y := F) (args := [sv x112]) (by kernel_rfl : lookAt _ _ _ _ = some ((Op.call { callee := (Callee.value (Operand.tmp 11)), args := #[(Operand.tmp 15)], argTypes := #[9] }), some 16)) (by kernel_rfl) (by kernel_rfl) (hF _ _ hl114 hE106) ?_
  rintro _ w116 ⟨E117, rfl⟩
  have hE118 := hE106.and0 E117
  have := E117.size
  have R119 := F105.step same E117 no0
  have A120 := A115.step same E117 no0
  refine L.done ?_
  show S _ _ _ c124_n19 _ _ _ _
  refine S.cond (p x112) (o := (Operand.tmp 16)) (x := c124_n20) (y := c124_n23) (by kernel_rfl) (by kernel_rfl) (fun h121 => ?_) (fun h121 => ?_)
  ·refine S.seq (x := c124_n21) (y := c124_n22) (by kernel_rfl) ?_
   refine S.reg (ops := o124_n21) (js := [0, 1]) (by kernel_rfl) (by kernel_rfl) ?_
   refine L.runU [0, 1] [] [(17, .int .i64 (((k : Nat) : Int))), (4, .int .i64 (((k : Nat) : Int)))] (by kernel_rfl) (by kernel_rfl) ?_
   refine L.done ?_
   show S _ _ _ c124_n22 _ _ _ _
   refine S.ret (by kernel_rfl) ?_
   show Leave _ _ _ _ _ _ _ _
   refine Leave.ret1 (x := .tmp 4) (.int .i64 (((k : Nat) : Int))) (by kernel_rfl) (.ofT (by kernel_rfl)) ?_
   refine ⟨_, rfl, hE118, ?_⟩
   exact int_i64 (by rw [find_hit ha hx113 (by simp_all)]; rfl)
  ·refine S.skip (by kernel_rfl) ?_
   show S _ _ _ c124_n24 _ _ _ _
   refine S.reg (ops := o124_n24) (js := [0, 1]) (by kernel_rfl) (by kernel_rfl) ?_
   refine L.runU [0] [1] [(18, .int .i64 (IntKind.i64.wrap (((k : Nat) : Int) + 1)))] (by kernel_rfl) (by kernel_rfl) ?_
   refine X.re64 (G := fun σ => L _ _ _ _ _ _ σ _ _) (d := 18) (((k : Nat) : Int) + 1) (((k + 1 : Nat) : Int)) (by kernel_rfl) (by omega) ?_
   refine L.runU [1] [] [(8, .int .i64 (((k + 1 : Nat) : Int)))] (by kernel_rfl) (by kernel_rfl) ?_
   refine L.done ?_
   show ∃ m', m' < _ ∧ _
   refine ⟨l.length - (k + 1), ?_, ⟨k + 1, rfl, (by omega), (by exact find_snoc ha hx113 (by simp_all)), R119, hE118, (by omega), rfl, _, Holds.eq (l := [(0, .slice a l.length cap), (1, F), (7, .int .i64 (((l.length : Nat) : Int))), (8, .int .i64 (((k + 1 : Nat) : Int)))]) ⟨by kernel_rfl, by kernel_rfl, by kernel_rfl, by kernel_rfl, trivial⟩⟩⟩
   omega
 ·refine S.exit (id := 0) (by kernel_rfl) ?_
  show S _ _ _ c124_1_1 _ _ _ _
  refine S.seq (x := c124_1_1_0) (y := c124_1_1_1) (by kernel_rfl) ?_
  refine S.reg (ops := o124_1_1_0) (js := [0]) (by kernel_rfl) (by kernel_rfl) ?_
  refine L.runU [0] [] [(4, .int .i64 (-1))] (by kernel_rfl) (by kernel_rfl) ?_
  refine L.done ?_
  show S _ _ _ c124_1_1_1 _ _ _ _
  refine S.ret (by kernel_rfl) ?_
  show Leave _ _ _ _ _ _ _ _
  refine Leave.ret1 (x := .tmp 4) (.int .i64 (-1)) (by kernel_rfl) (.ofT (by kernel_rfl)) ?_
  refine ⟨_, rfl, hE106, ?_⟩
  exact int_i64 (by rw [find_miss ha (by omega)]; rfl)
noncomputable def c84 : Code := bodyOf Tryz.f84
noncomputable def c84_0 : Code := kid 0 c84
noncomputable def o84_0 : Array Oper := regOps c84_0
noncomputable def c84_1 : Code := kid 1 c84
noncomputable def c84_1_0 : Code := kid 0 c84_1
noncomputable def o84_1_0 : Array Oper := regOps c84_1_0
noncomputable def c84_1_1 : Code := kid 1 c84_1
set_option maxHeartbeats 400000 in
theorem cont84_ok (a : Option Addr) (cap : Nat) (l : List Str) (F : Value) (p : Str → Bool) (w : World) (h : Sl Kd.str [] w a l) (hF : ∀ w' x, x.length < 4611686018427387904 → Eff [] w w' → CallV Tryz.prog F [sv x] w' (RetW [] w' fun v _ => v = .bool (p x))) : Calls Tryz.prog 84 #[.slice a l.length cap, F] w (RetW [] w fun v _ => v = .bool (l.any p)) := by
 refine calls_of_S (n := 9) (c := c84) Tryz.func84 (by kernel_rfl) (by kernel_rfl) (Nat.le_of_ble_eq_true (by kernel_rfl)) ?_
 have hE0 : Eff [] w w := Eff.refl _ _
 refine S.seq (x := c84_0) (y := c84_1) (by kernel_rfl) ?_
 refine S.reg (ops := o84_0) (js := [0]) (by kernel_rfl) (by kernel_rfl) ?_
 refine L.runU [0] [] [(4, .bool false)] (by kernel_rfl) (by kernel_rfl) ?_
 refine L.done ?_
 show S _ _ _ c84_1 _ _ _ _
 refine S.seq (x := c84_1_0) (y := c84_1_1) (by kernel_rfl) ?_
 refine S.reg (ops := o84_1_0) (js := [0, 1, 2, 3, 4]) (by kernel_rfl) (by kernel_rfl) ?_
 refine L.runU [0, 1] [2, 3, 4] [(5, .slice a l.length cap), (6, F)] (by kernel_rfl) (by kernel_rfl) ?_
 refine L.call (f := 124) (by kernel_rfl : lookAt _ _ _ _ = some ((Op.call { callee := (Callee.value (Operand.func 124)), args := #[(Operand.tmp 5), (Operand.tmp 6)], argTypes := #[30, 75] }), some 7)) e124 (by kernel_rfl) (ix124_ok a cap l F p _ h.wk0 (fun w' x hx E => hF w' x hx (hE0.and0 E))) ?_
 rintro _ w102 E103 rfl
 have hE105 := hE0.and0 E103
 have := E103.size
 have R106 := h.step same E103 no0
 refine L.runU [3, 4] [] [(8, .bool (decide (0 ≤ optI (l.findIdx? p)))), (4, .bool (decide (0 ≤ optI (l.findIdx? p))))] (by kernel_rfl) (by kernel_rfl) ?_
 refine L.done ?_
 show S _ _ _ c84_1_1 _ _ _ _
 refine S.ret (by kernel_rfl) ?_
 show Leave _ _ _ _ _ _ _ _
 refine Leave.ret1 (x := .tmp 4) (.bool (decide (0 ≤ optI (l.findIdx? p)))) (by kernel_rfl) (.ofT (by kernel_rfl)) ?_
 refine ⟨_, rfl, hE105, ?_⟩
 exact bool_eq (any_find _ _)
noncomputable def c83 : Code := bodyOf Tryz.f83
noncomputable def c83_0 : Code := kid 0 c83
noncomputable def o83_0 : Array Oper := regOps c83_0
noncomputable def c83_1 : Code := kid 1 c83
noncomputable def c83_1_0 : Code := kid 0 c83_1
noncomputable def c83_1_0_0 : Code := kid 0 c83_1_0
noncomputable def o83_1_0_0 : Array Oper := regOps c83_1_0_0
noncomputable def c83_1_0_1 : Code := kid 1 c83_1_0
noncomputable def c83_n6 : Code := kid 0 c83_1_0_1
noncomputable def c83_n7 : Code := kid 0 c83_n6
noncomputable def o83_n7 : Array Oper := regOps c83_n7
noncomputable def c83_n8 : Code := kid 1 c83_n6
noncomputable def c83_n9 : Code := kid 1 c83_1_0_1
noncomputable def c83_1_1 : Code := kid 1 c83_1
noncomputable def c83_1_1_0 : Code := kid 0 c83_1_1
noncomputable def o83_1_1_0 : Array Oper := regOps c83_1_1_0
noncomputable def c83_1_1_1 : Code := kid 1 c83_1_1
set_option maxHeartbeats 400000 in
theorem most83_ok (f : Nat) (w : World) (hf : f < 8) : Calls Tryz.prog 83 #[.int .i64 (((f : Nat) : Int))] w (RetW [] w fun v _ => v = .int .i64 (mostF f : Int)) := by
 refine calls_of_S (n := 5) (c := c83) Tryz.func83 (by kernel_rfl) (by kernel_rfl) (Nat.le_of_ble_eq_true (by kernel_rfl)) ?_
 have hE0 : Eff [] w w := Eff.refl _ _
 refine S.seq (x := c83_0) (y := c83_1) (by kernel_rfl) ?_
 refine S.reg (ops := o83_0) (js := [0]) (by kernel_rfl) (by kernel_rfl) ?_
 refine L.runU [0] [] [(2, .int .i64 0)] (by kernel_rfl) (by kernel_rfl) ?_
 refine L.done ?_
 show S _ _ _ c83_1 _ _ _ _
 refine S.seq (x := c83_1_0) (y := c83_1_1) (by kernel_rfl) ?_
 refine S.seq (x := c83_1_0_0) (y := c83_1_0_1) (by kernel_rfl) ?_
 refine S.reg (ops := o83_1_0_0) (js := [0, 1]) (by kernel_rfl) (by kernel_rfl) ?_
 refine L.runU [0, 1] [] [(3, .int .i64 (((f : Nat) : Int))), (4, .bool (decide (6 ≤ ((f : Nat) : Int))))] (by kernel_rfl) (by kernel_rfl) ?_
 refine L.done ?_
 show S _ _ _ c83_1_0_1 _ _ _ _
 refine S.condP (6 ≤ ((f : Nat) : Int)) (o := (Operand.tmp 4)) (x := c83_n6) (y := c83_n9) (by kernel_rfl) (by kernel_rfl) (fun h101 => ?_) (fun h101 => ?_)
 ·refine S.seq (x := c83_n7) (y := c83_n8) (by kernel_rfl) ?_
  refine S.reg (ops := o83_n7) (js := [0]) (by kernel_rfl) (by kernel_rfl) ?_
  refine L.runU [0] [] [(2, .int .i64 8)] (by kernel_rfl) (by kernel_rfl) ?_
  refine L.done ?_
  show S _ _ _ c83_n8 _ _ _ _
  refine S.ret (by kernel_rfl) ?_
  show Leave _ _ _ _ _ _ _ _
  refine Leave.ret1 (x := .tmp 2) (.int .i64 8) (by kernel_rfl) (.ofT (by kernel_rfl)) ?_
  refine ⟨_, rfl, hE0, ?_⟩
  rw [mostF, if_pos (by omega)]; rfl
 ·refine S.skip (by kernel_rfl) ?_
  show S _ _ _ c83_1_1 _ _ _ _
  refine S.seq (x := c83_1_1_0) (y := c83_1_1_1) (by kernel_rfl) ?_
  refine S.reg (ops := o83_1_1_0) (js := [0]) (by kernel_rfl) (by kernel_rfl) ?_
  refine L.runU [0] [] [(2, .int .i64 1)] (by kernel_rfl) (by kernel_rfl) ?_
  refine L.done ?_
  show S _ _ _ c83_1_1_1 _ _ _ _
  refine S.ret (by kernel_rfl) ?_
  show Leave _ _ _ _ _ _ _ _
  refine Leave.ret1 (x := .tmp 2) (.int .i64 1) (by kernel_rfl) (.ofT (by kernel_rfl)) ?_
  refine ⟨_, rfl, hE0, ?_⟩
  rw [mostF, if_neg (by omega)]; rfl
noncomputable def c86 : Code := bodyOf Tryz.f86
noncomputable def c86_0 : Code := kid 0 c86
noncomputable def o86_0 : Array Oper := regOps c86_0
noncomputable def c86_1 : Code := kid 1 c86
noncomputable def c86_1_0 : Code := kid 0 c86_1
noncomputable def c86_1_0_0 : Code := kid 0 c86_1_0
noncomputable def o86_1_0_0 : Array Oper := regOps c86_1_0_0
noncomputable def c86_1_0_1 : Code := kid 1 c86_1_0
noncomputable def c86_n6 : Code := kid 0 c86_1_0_1
noncomputable def c86_n7 : Code := kid 0 c86_n6
noncomputable def c86_n8 : Code := kid 0 c86_n7
noncomputable def c86_n9 : Code := kid 0 c86_n8
noncomputable def o86_n9 : Array Oper := regOps c86_n9
noncomputable def c86_n10 : Code := kid 1 c86_n8
noncomputable def c86_n11 : Code := kid 0 c86_n10
noncomputable def c86_n12 : Code := kid 1 c86_n10
noncomputable def c86_n13 : Code := kid 1 c86_n7
noncomputable def c86_n14 : Code := kid 0 c86_n13
noncomputable def c86_n15 : Code := kid 0 c86_n14
noncomputable def c86_n16 : Code := kid 0 c86_n15
noncomputable def o86_n16 : Array Oper := regOps c86_n16
noncomputable def c86_n17 : Code := kid 1 c86_n15
noncomputable def c86_n18 : Code := kid 0 c86_n17
noncomputable def c86_n19 : Code := kid 0 c86_n18
noncomputable def o86_n19 : Array Oper := regOps c86_n19
noncomputable def c86_n20 : Code := kid 1 c86_n18
noncomputable def c86_n21 : Code := kid 1 c86_n17
noncomputable def c86_n22 : Code := kid 1 c86_n13
noncomputable def o86_n22 : Array Oper := regOps c86_n22
noncomputable def c86_1_1 : Code := kid 1 c86_1
noncomputable def c86_1_1_0 : Code := kid 0 c86_1_1
noncomputable def o86_1_1_0 : Array Oper := regOps c86_1_1_0
noncomputable def c86_1_1_1 : Code := kid 1 c86_1_1
set_option maxHeartbeats 400000 in
theorem rises_ok (a : Option Addr) (cap : Nat) (l : List Str) (w : World) (h : Sl Kd.str [] w a l) : Calls Tryz.prog 86 #[.slice a l.length cap] w (RetW [] w fun v _ => v = .bool (risesF l)) := by
 refine calls_of_S (n := 20) (c := c86) Tryz.func86 (by kernel_rfl) (by kernel_rfl) (Nat.le_of_ble_eq_true (by kernel_rfl)) ?_
 have hl := h.1
 have hE0 : Eff [] w w := Eff.refl _ _
 refine S.seq (x := c86_0) (y := c86_1) (by kernel_rfl) ?_
 refine S.reg (ops := o86_0) (js := [0]) (by kernel_rfl) (by kernel_rfl) ?_
 refine L.runU [0] [] [(2, .bool false)] (by kernel_rfl) (by kernel_rfl) ?_
 refine L.done ?_
 show S _ _ _ c86_1 _ _ _ _
 refine S.seq (x := c86_1_0) (y := c86_1_1) (by kernel_rfl) ?_
 refine S.seq (x := c86_1_0_0) (y := c86_1_0_1) (by kernel_rfl) ?_
 refine S.reg (ops := o86_1_0_0) (js := [0]) (by kernel_rfl) (by kernel_rfl) ?_
 refine L.runU [0] [] [(3, .int .i64 1)] (by kernel_rfl) (by kernel_rfl) ?_
 refine L.done ?_
 show S _ _ _ c86_1_0_1 _ _ _ _
 refine S.block (id := 0) (x := c86_n6) (by kernel_rfl) ?_
 refine S.loop (x := c86_n7) (fun m σ' ds' w' => ∃ (k : Nat), m = l.length - k ∧ (1 ≤ k ∧ (k ≤ l.length ∨ k = 1)) ∧ (∀ j, j < k → risB l j = true) ∧ Sl Kd.str [] w' a l ∧ Eff [] w w' ∧ w.heap.size ≤ w'.heap.size ∧ ds' = [] ∧ ∃ u, σ' = slots u [(0, .slice a l.length cap), (3, .int .i64 (((k : Nat) : Int)))]) (l.length - 1) (by kernel_rfl) ⟨1, rfl, (by omega), (by intro j hj; have hj0 : j = 0 := (by omega); subst hj0; rfl), h, hE0, (Nat.le_refl _), rfl, _, Holds.eq (l := [(0, .slice a l.length cap), (3, .int .i64 1)]) ⟨by kernel_rfl, by kernel_rfl, trivial⟩⟩ ?_
 rintro m102 σ' ds' w101 ⟨k, hm104, hk, ha, F105, hE106, hz107, rfl, u103, rfl⟩
 refine S.seq (x := c86_n8) (y := c86_n13) (by kernel_rfl) ?_
 refine S.seq (x := c86_n9) (y := c86_n10) (by kernel_rfl) ?_
 refine S.reg (ops := o86_n9) (js := [0, 1, 2, 3]) (by kernel_rfl) (by kernel_rfl) ?_
 refine L.runU [0, 1, 2, 3] [] [(4, .int .i64 (((k : Nat) : Int))), (5, .slice a l.length cap), (6, .int .i64 (((l.length : Nat) : Int))), (7, .bool (decide (((k : Nat) : Int) < ((l.length : Nat) : Int))))] (by kernel_rfl) (by kernel_rfl) ?_
 refine L.done ?_
 show S _ _ _ c86_n10 _ _ _ _
 refine S.condP (((k : Nat) : Int) < ((l.length : Nat) : Int)) (o := (Operand.tmp 7)) (x := c86_n11) (y := c86_n12) (by kernel_rfl) (by kernel_rfl) (fun h108 => ?_) (fun h108 => ?_)
 ·refine S.skip (by kernel_rfl) ?_
  show S _ _ _ c86_n13 _ _ _ _
  refine S.seq (x := c86_n14) (y := c86_n22) (by kernel_rfl) ?_
  refine S.block (id := 1) (x := c86_n15) (by kernel_rfl) ?_
  refine S.seq (x := c86_n16) (y := c86_n17) (by kernel_rfl) ?_
  refine S.draw (ops := o86_n16) (Eff ([])) 10 #[false, false, false, false, false, false, false, false, false, false] (by kernel_rfl) (by kernel_rfl) (by kernel_rfl) (by kernel_rfl) ?_
  intro w109 E110 hw111
  have hE113 := hE106.and0 E110
  have := E110.size
  have R114 := F105.step same E110 no0
  have hS112 := Eff.refl ([]) w109
  refine D.take 0 (.slice a l.length cap) (some 10) #[true, false, false, false, false, false, false, false, false, false] (by kernel_rfl) (by kernel_rfl) (by kernel_rfl) (fun _ _ _ _ h => LeaveP.put h (by kernel_rfl)) (.pure (n := 20) (by kernel_rfl)) hS112 ?_
  refine D.take 1 (.int .i64 (((k : Nat) : Int))) (some 11) #[true, true, false, false, false, false, false, false, false, false] (by kernel_rfl) (by kernel_rfl) (by kernel_rfl) (fun _ _ _ _ h => LeaveP.put h (by kernel_rfl)) (.pure (n := 20) (by kernel_rfl)) hS112 ?_
  refine D.take 2 (.int .i64 (IntKind.i64.wrap (((k : Nat) : Int) - 1))) (some 12) #[true, true, true, false, false, false, false, false, false, false] (by kernel_rfl) (by kernel_rfl) (by kernel_rfl) (fun _ _ _ _ h => LeaveP.put h (by kernel_rfl)) (.pure (n := 20) (by kernel_rfl)) hS112 ?_
  refine X.re64 (G := fun σ => D _ _ _ _ _ _ _ _ σ _ _) (d := 12) (((k : Nat) : Int) - 1) (((k - 1 : Nat) : Int)) (by kernel_rfl) (by omega) ?_
  obtain ⟨x118, hx119⟩ : ∃ x, (l)[k - 1]? = some x := ⟨_, List.getElem?_eq_getElem (by omega)⟩
  obtain ⟨p115, _, hp116, A117, ⟨rfl, hl120⟩⟩ := R114.open_ hx119
  have A121 : CAt ([]) w109 (p115.add (k - 1)) [sv x118] := by have h := A117; rw [show (k - 1) * (Kd.str).sz = k - 1 from Nat.mul_one _] at h; exact h
  refine D.take 3 (.pointer (some (p115.add (k - 1)))) (some 13) #[true, true, true, true, false, false, false, false, false, false] (by kernel_rfl) (by kernel_rfl) (by kernel_rfl) (fun _ _ _ _ h => LeaveP.put h (by kernel_rfl)) (.val (n := 20) (by kernel_rfl : lookAt _ _ _ _ = some ((Op.indexAddr 30 (Operand.tmp 10) (Operand.tmp 12)), some 13)) (by intro c e; cases e) (fun _ h => rx_indexAddr (e := 9) (sz := 1) (a := a) (p := p115) (len := l.length) (cap := cap) (kk := .i64) (i := ((k - 1 : Nat) : Int)) (k - 1) (k - 1) (by kernel_rfl) hp116 (by kernel_rfl) (by kernel_rfl) (by kernel_rfl) (by omega) (by omega) (by omega))) hS112 ?_
  refine D.take 4 (sv x118) (some 14) #[true, true, true, true, true, false, false, false, false, false] (by kernel_rfl) (by kernel_rfl) (by kernel_rfl) (fun _ _ _ _ h => LeaveP.put h (by kernel_rfl)) (.val (n := 20) (by kernel_rfl : lookAt _ _ _ _ = some ((Op.load 9 (Operand.tmp 13)), some 14)) (by intro c e; cases e) (fun _ h => rx_load 0 (sv x118) ((A121.eff h no0).1) (by kernel_rfl) (by kernel_rfl))) hS112 ?_
  refine D.take 5 (.slice a l.length cap) (some 15) #[true, true, true, true, true, true, false, false, false, false] (by kernel_rfl) (by kernel_rfl) (by kernel_rfl) (fun _ _ _ _ h => LeaveP.put h (by kernel_rfl)) (.pure (n := 20) (by kernel_rfl)) hS112 ?_
  refine D.take 6 (.int .i64 (((k : Nat) : Int))) (some 16) #[true, true, true, true, true, true, true, false, false, false] (by kernel_rfl) (by kernel_rfl) (by kernel_rfl) (fun _ _ _ _ h => LeaveP.put h (by kernel_rfl)) (.pure (n := 20) (by kernel_rfl)) hS112 ?_
  obtain ⟨x125, hx126⟩ : ∃ x, (l)[k]? = some x := ⟨_, List.getElem?_eq_getElem (by omega)⟩
  obtain ⟨p122, _, hp123, A124, ⟨rfl, hl127⟩⟩ := R114.open_ hx126
  have A128 : CAt ([]) w109 (p122.add k) [sv x125] := by have h := A124; rw [show k * (Kd.str).sz = k from Nat.mul_one _] at h; exact h
  refine D.take 7 (.pointer (some (p122.add k))) (some 17) #[true, true, true, true, true, true, true, true, false, false] (by kernel_rfl) (by kernel_rfl) (by kernel_rfl) (fun _ _ _ _ h => LeaveP.put h (by kernel_rfl)) (.val (n := 20) (by kernel_rfl : lookAt _ _ _ _ = some ((Op.indexAddr 30 (Operand.tmp 15) (Operand.tmp 16)), some 17)) (by intro c e; cases e) (fun _ h => rx_indexAddr (e := 9) (sz := 1) (a := a) (p := p122) (len := l.length) (cap := cap) (kk := .i64) (i := ((k : Nat) : Int)) k k (by kernel_rfl) hp123 (by kernel_rfl) (by kernel_rfl) (by kernel_rfl) (by omega) (by omega) (by omega))) hS112 ?_
  refine D.take 8 (sv x125) (some 18) #[true, true, true, true, true, true, true, true, true, false] (by kernel_rfl) (by kernel_rfl) (by kernel_rfl) (fun _ _ _ _ h => LeaveP.put h (by kernel_rfl)) (.val (n := 20) (by kernel_rfl : lookAt _ _ _ _ = some ((Op.load 9 (Operand.tmp 17)), some 18)) (by intro c e; cases e) (fun _ h => rx_load 0 (sv x125) ((A128.eff h no0).1) (by kernel_rfl) (by kernel_rfl))) hS112 ?_
  refine D.take 9 (.bool (!sLt x118 x125)) (some 19) #[true, true, true, true, true, true, true, true, true, true] (by kernel_rfl) (by kernel_rfl) (by kernel_rfl) (fun _ _ _ _ h => LeaveP.put h (by kernel_rfl)) (.val (n := 20) (by kernel_rfl : lookAt _ _ _ _ = some ((Op.binOp BinOp.geq 9 (Operand.tmp 14) (Operand.tmp 18) 9), some 19)) (by intro c e; cases e) (fun _ h => rx_strGeq x118 x125 (by kernel_rfl) (by kernel_rfl))) hS112 ?_
  refine D.done _ (by kernel_rfl) ?_
  show S _ _ _ c86_n17 _ _ _ _
  refine S.cond (!sLt x118 x125) (o := (Operand.tmp 19)) (x := c86_n18) (y := c86_n21) (by kernel_rfl) (by kernel_rfl) (fun h129 => ?_) (fun h129 => ?_)
  ·refine S.seq (x := c86_n19) (y := c86_n20) (by kernel_rfl) ?_
   refine S.reg (ops := o86_n19) (js := [0]) (by kernel_rfl) (by kernel_rfl) ?_
   refine L.runU [0] [] [(2, .bool false)] (by kernel_rfl) (by kernel_rfl) ?_
   refine L.done ?_
   show S _ _ _ c86_n20 _ _ _ _
   refine S.ret (by kernel_rfl) ?_
   show Leave _ _ _ _ _ _ _ _
   refine Leave.ret1 (x := .tmp 2) (.bool false) (by kernel_rfl) (.ofT (by kernel_rfl)) ?_
   refine ⟨_, rfl, hE113, ?_⟩
   exact bool_eq (by rw [risesF, allI_false (j := k) (by omega) (by rw [risB, getD_of (d := []) hx119, getD_of (d := []) hx126]; (first | rfl | (rw [Bool.eq_iff_iff]; simp only [Bool.and_eq_true, Bool.or_eq_true, Bool.not_eq_true', decide_eq_true_eq, decide_eq_false_iff_not, Bool.and_true, Bool.true_and, Bool.and_false, Bool.false_and, Bool.or_true, Bool.true_or, Bool.or_false, Bool.false_or, Bool.not_true, Bool.not_false, Bool.false_eq_true, false_iff, iff_false, true_iff, iff_true, eq_self_iff_true, not_true_eq_false, not_false_eq_true]; omega) | (grind []) | (simp []; done) | (rw [Bool.eq_iff_iff]; simp []; done) | (rw [Bool.eq_iff_iff]; simp []; omega) | (simp_all []; done) | (rw [Bool.eq_iff_iff]; simp_all []; done) | (rw [Bool.eq_iff_iff]; simp_all []; omega)))])
  ·refine S.skip (by kernel_rfl) ?_
   show S _ _ _ c86_n22 _ _ _ _
   refine S.reg (ops := o86_n22) (js := [0, 1, 2]) (by kernel_rfl) (by kernel_rfl) ?_
   refine L.runU [0, 1] [2] [(8, .int .i64 (((k : Nat) : Int))), (9, .int .i64 (IntKind.i64.wrap (((k : Nat) : Int) + 1)))] (by kernel_rfl) (by kernel_rfl) ?_
   refine X.re64 (G := fun σ => L _ _ _ _ _ _ σ _ _) (d := 9) (((k : Nat) : Int) + 1) (((k + 1 : Nat) : Int)) (by kernel_rfl) (by omega) ?_
   refine L.runU [2] [] [(3, .int .i64 (((k + 1 : Nat) : Int)))] (by kernel_rfl) (by kernel_rfl) ?_
   refine L.done ?_
   show ∃ m', m' < _ ∧ _
   refine ⟨l.length - (k + 1), ?_, ⟨k + 1, rfl, (by omega), (by exact allI_snoc ha (by rw [risB, getD_of (d := []) hx119, getD_of (d := []) hx126]; (first | rfl | (rw [Bool.eq_iff_iff]; simp only [Bool.and_eq_true, Bool.or_eq_true, Bool.not_eq_true', decide_eq_true_eq, decide_eq_false_iff_not, Bool.and_true, Bool.true_and, Bool.and_false, Bool.false_and, Bool.or_true, Bool.true_or, Bool.or_false, Bool.false_or, Bool.not_true, Bool.not_false, Bool.false_eq_true, false_iff, iff_false, true_iff, iff_true, eq_self_iff_true, not_true_eq_false, not_false_eq_true]; omega) | (grind []) | (simp []; done) | (rw [Bool.eq_iff_iff]; simp []; done) | (rw [Bool.eq_iff_iff]; simp []; omega) | (simp_all []; done) | (rw [Bool.eq_iff_iff]; simp_all []; done) | (rw [Bool.eq_iff_iff]; simp_all []; omega)))), R114, hE113, (by omega), rfl, _, Holds.eq (l := [(0, .slice a l.length cap), (3, .int .i64 (((k + 1 : Nat) : Int)))]) ⟨by kernel_rfl, by kernel_rfl, trivial⟩⟩⟩
   omega
 ·refine S.exit (id := 0) (by kernel_rfl) ?_
  show S _ _ _ c86_1_1 _ _ _ _
  refine S.seq (x := c86_1_1_0) (y := c86_1_1_1) (by kernel_rfl) ?_
  refine S.reg (ops := o86_1_1_0) (js := [0]) (by kernel_rfl) (by kernel_rfl) ?_
  refine L.runU [0] [] [(2, .bool true)] (by kernel_rfl) (by kernel_rfl) ?_
  refine L.done ?_
  show S _ _ _ c86_1_1_1 _ _ _ _
  refine S.ret (by kernel_rfl) ?_
  show Leave _ _ _ _ _ _ _ _
  refine Leave.ret1 (x := .tmp 2) (.bool true) (by kernel_rfl) (.ofT (by kernel_rfl)) ?_
  refine ⟨_, rfl, hE106, ?_⟩
  exact bool_eq (by rw [risesF, allI_true ha (by omega)])
end Go.Proofs.YtjleeadiadpiaaaGreatDoor
namespace Go.Proofs.YtjleeadiadpiaaaGreatDoor
open Go Go.Fx Go.RowKit
def chkF (f : Nat) (l : List Str) : Bool := decide (l.length ≤ mostF f) && !(l.any fun x => !valOk f x) && risesF l
theorem allI_iff {n : Nat} {P : Nat → Bool} : allI n P = true ↔ ∀ j, j < n → P j = true := ⟨fun h j hj => allI_get h hj, fun h => allI_true h (Nat.le_refl _)⟩
theorem all_iff {α : Type} {l : List α} {d : α} {p : α → Bool} : l.all p = true ↔ ∀ j, j < l.length → p (l.getD j d) = true := by
 rw [List.all_eq_true]
 refine ⟨fun h j hj => ?_, fun h x hx => ?_⟩
 ·rw [List.getD_eq_getElem?_getD, List.getElem?_eq_getElem hj]; exact h _ (List.getElem_mem hj)
 ·obtain ⟨j, hj, rfl⟩ := List.getElem_of_mem hx
  have := h j hj
  rw [List.getD_eq_getElem?_getD, List.getElem?_eq_getElem hj] at this
  exact this
theorem values_iff (f : Nat) (l : List Str) : valuesF f l = (chkF f l && (!decide (f = 0) || decide (l.length = 1))) := by
 have e : (!(l.any fun x => !valOk f x)) = l.all (valOk f) := by rw [List.not_any_eq_all_not]; simp
 rw [chkF, e, valuesF, Bool.eq_iff_iff]
 simp only [Bool.and_eq_true, risesF, allI_iff, all_iff (d := ([] : Str)), valB, valOk, risB]
 constructor
 ·rintro ⟨⟨h1, h2⟩, h3⟩
  exact ⟨⟨⟨h1, fun j hj => ⟨(h3 j hj).2, (h3 j hj).1.1⟩⟩, fun j hj => (h3 j hj).1.2⟩, h2⟩
 ·rintro ⟨⟨⟨h1, h3⟩, h4⟩, h2⟩
  exact ⟨⟨h1, h2⟩, fun j hj => ⟨⟨(h3 j hj).2, h4 j hj⟩, (h3 j hj).1⟩⟩
theorem chk_bad {c : List (List Str)} {f : Nat} (hf : f < 8) (h : chkF f (c.getD f []) = false) : rightF c = false := by
 rw [rightF, allI_false (j := f) hf]; simp only [values_iff, h, Bool.false_and]
theorem right_chk {α : Type} {c : List (List Str)} {pre : List α} (hp : pre.length = c.length) (h : ∀ j, j < pre.length → chkF j (c.getD j []) = true) (hc : c.length = 8) (h0 : (c.getD 0 []).length = 1) : rightF c = true := by
 rw [rightF]
 refine allI_true (k := 8) (fun j hj => ?_) (Nat.le_refl _)
 rw [values_iff, h j (by omega)]
 by_cases hj0 : j = 0
 ·subst hj0; rw [h0]; rfl
 ·simp [hj0]
theorem right_one {c : List (List Str)} (h0 : (c.getD 0 []).length ≠ 1) : ¬ rightF c = true := by
 intro h
 have := allI_get h (j := 0) (by omega)
 simp only [values_iff, Bool.and_eq_true, decide_true, Bool.not_true, Bool.false_or, decide_eq_true_eq] at this
 exact h0 this.2
noncomputable def c53 : Code := bodyOf Tryz.f53
noncomputable def c53_0 : Code := kid 0 c53
noncomputable def o53_0 : Array Oper := regOps c53_0
noncomputable def c53_1 : Code := kid 1 c53
noncomputable def c53_1_0 : Code := kid 0 c53_1
noncomputable def c53_1_0_0 : Code := kid 0 c53_1_0
noncomputable def o53_1_0_0 : Array Oper := regOps c53_1_0_0
noncomputable def c53_1_0_1 : Code := kid 1 c53_1_0
noncomputable def c53_n6 : Code := kid 0 c53_1_0_1
noncomputable def c53_n7 : Code := kid 0 c53_n6
noncomputable def c53_n8 : Code := kid 0 c53_n7
noncomputable def o53_n8 : Array Oper := regOps c53_n8
noncomputable def c53_n9 : Code := kid 1 c53_n7
noncomputable def o53_n9 : Array Oper := regOps c53_n9
noncomputable def c53_n10 : Code := kid 1 c53_n6
noncomputable def c53_n11 : Code := kid 0 c53_n10
noncomputable def c53_n12 : Code := kid 0 c53_n11
noncomputable def o53_n12 : Array Oper := regOps c53_n12
noncomputable def c53_n13 : Code := kid 1 c53_n11
noncomputable def c53_n14 : Code := kid 0 c53_n13
noncomputable def o53_n14 : Array Oper := regOps c53_n14
noncomputable def c53_n15 : Code := kid 1 c53_n13
noncomputable def c53_n16 : Code := kid 0 c53_n15
noncomputable def c53_n17 : Code := kid 0 c53_n16
noncomputable def o53_n17 : Array Oper := regOps c53_n17
noncomputable def c53_n18 : Code := kid 1 c53_n16
noncomputable def c53_n19 : Code := kid 1 c53_n15
noncomputable def c53_1_1 : Code := kid 1 c53_1
noncomputable def c53_1_1_0 : Code := kid 0 c53_1_1
noncomputable def c53_n22 : Code := kid 0 c53_1_1_0
noncomputable def o53_n22 : Array Oper := regOps c53_n22
noncomputable def c53_n23 : Code := kid 1 c53_1_1_0
noncomputable def c53_n24 : Code := kid 0 c53_n23
noncomputable def c53_n25 : Code := kid 0 c53_n24
noncomputable def o53_n25 : Array Oper := regOps c53_n25
noncomputable def c53_n26 : Code := kid 1 c53_n24
noncomputable def c53_n27 : Code := kid 1 c53_n23
noncomputable def c53_1_1_1 : Code := kid 1 c53_1_1
noncomputable def c53_n29 : Code := kid 0 c53_1_1_1
noncomputable def o53_n29 : Array Oper := regOps c53_n29
noncomputable def c53_n30 : Code := kid 1 c53_1_1_1
set_option maxHeartbeats 400000 in
theorem check_ok (cs : List Value) (c : List (List Str)) (w : World) (h : kCt.R [] w cs c) : Calls Tryz.prog 53 #[.agg (cs).toArray] w (RetW [] w fun v _ => v = .int .i64 (if rightF c = true then 0 else 2)) := by
 refine calls_of_S (n := 31) (c := c53) Tryz.func53 (by kernel_rfl) (by kernel_rfl) (Nat.le_of_ble_eq_true (by kernel_rfl)) ?_
 obtain ⟨v101, v102, v103, v104, v105, v106, v107, v108, rfl, C109⟩ := h
 have hlen : c.length = 8 := C109.2.1
 have hE0 : Eff [] w w := Eff.refl _ _
 refine S.seq (x := c53_0) (y := c53_1) (by kernel_rfl) ?_
 refine S.reg (ops := o53_0) (js := [0, 1]) (by kernel_rfl) (by kernel_rfl) ?_
 refine L.box [v101, v102, v103, v104, v105, v106, v107, v108] (by kernel_rfl : lookAt _ _ _ _ = some ((Op.box 32 (Operand.tmp 0)), some 1)) (by kernel_rfl) ?_
 intro b110 w111 hs112 hz113 E114 B115
 have hE116 := hE0.and0 E114
 have := E114.size
 have C117 := Kd.step (Kd.array 8 [] (Kd.slice Kd.str) rfl) C109 (nNew (fresh1 hs112) same) E114 no0
 have hM118 : Mok ([b110] ++ []) w111 := (Mok.nil _).step E114 (nNew (flt1 (b := b110) (by omega)) same)
 refine L.alloc [.int .i64 0] (by kernel_rfl : lookAt _ _ _ _ = some ((Op.alloc 65), some 2)) (by kernel_rfl) ?_
 intro b119 w120 hs121 hz122 E123 B124
 have hE125 := hE116.and0 E123
 have := E123.size
 have C126 := Kd.step (Kd.array 8 [] (Kd.slice Kd.str) rfl) C117 (nNew (fresh1 hs121) (nKeep same)) E123 no0
 have B127 := B115.eff0 E123
 have hM128 : Mok ([b119] ++ ([b110] ++ [])) w120 := hM118.step E123 (nNew (flt1 (b := b119) (by omega)) (nKeep same))
 refine L.done ?_
 show S _ _ _ c53_1 _ _ _ _
 refine S.seq (x := c53_1_0) (y := c53_1_1) (by kernel_rfl) ?_
 refine S.seq (x := c53_1_0_0) (y := c53_1_0_1) (by kernel_rfl) ?_
 refine S.reg (ops := o53_1_0_0) (js := [0, 1]) (by kernel_rfl) (by kernel_rfl) ?_
 refine L.val (.agg #[v101, v102, v103, v104, v105, v106, v107, v108]) (by kernel_rfl : lookAt _ _ _ _ = some ((Op.load 32 (Operand.tmp 1)), some 6)) (by intro c e; cases e) (rx_load 0 (.agg #[v101, v102, v103, v104, v105, v106, v107, v108]) (B127.cells) (by kernel_rfl) (by kernel_rfl)) ?_
 refine L.call (f := 81) (by kernel_rfl : lookAt _ _ _ _ = some ((Op.call { callee := (Callee.value (Operand.func 81)), args := #[(Operand.tmp 6)], argTypes := #[32] }), some 7)) e81 (by kernel_rfl) (fields_ok [v101, v102, v103, v104, v105, v106, v107, v108] c _ (Kd.wk0 kCt ⟨_, _, _, _, _, _, _, _, rfl, C126⟩)) ?_
 rintro _ w130 E131 ⟨b133, b134, rfl, B135, B136, hb137, hb138, hb139⟩
 have nm140 := not_mem_of_ge (b := b133) hM128 hb137
 have hE141 := hE125.and0 E131
 have := E131.size
 have C142 := Kd.step (Kd.array 8 [] (Kd.slice Kd.str) rfl) C126 same E131 no0
 have B143 := B127.eff0 E131
 have B144 := B124.eff0 E131
 have hM145 := hM128.eff E131
 have := B135.lt
 have := B136.lt
 have nm146 : b134 ∉ ([b119] ++ ([b110] ++ [])) := not_mem_of_ge hM128 hb138
 have hlenR147 : c.length = 8 := C142.2.1
 have B148 : Blk w130 b133 [.slice (some ⟨b134, 0, none⟩) c.length 8] 178 := by rw [hlenR147]; exact B135
 have R147 := Sl.ofArr B136 nm146 C142 (by omega)
 refine L.done ?_
 show S _ _ _ c53_1_0_1 _ _ _ _
 refine S.block (id := 0) (x := c53_n6) (by kernel_rfl) ?_
 have := B143.lt
 have := B144.lt
 have := B148.lt
 obtain ⟨D149, hD151⟩ : ∃ D, w130.heap.size = D := ⟨_, rfl⟩
 obtain ⟨l150, hl152⟩ : ∃ l, D149 + 1 = l := ⟨_, rfl⟩
 refine S.range (α := Nat × List Str) (g := (Operand.tmp 7)) (ps := #[8, 9]) (assign := c53_n7) (body := c53_n10) (gf := 149) (lb := #[.pointer (some ⟨b133, 0, none⟩)]) false D149 l150 (encRow Kd.str (some ⟨b134, 0, none⟩) c) (nxL c) (finL c) (fun N m pre w' => m ≤ w'.heap.size ∧ (∀ b, b ∈ [l150] ++ ([D149] ++ ([b119] ++ ([b110] ++ []))) → b < m) ∧ l150 < w'.heap.size ∧ (∀ j, j < pre.length → chkF j (c.getD j []) = true) ∧ (Kd.array 8 [] (Kd.slice Kd.str) rfl).R ([l150] ++ ([D149] ++ ([b119] ++ ([b110] ++ [])))) w' [v101, v102, v103, v104, v105, v106, v107, v108] c ∧ Blk w' b110 ([v101, v102, v103, v104, v105, v106, v107, v108]) 32 ∧ Blk w' b119 ([.int .i64 0]) 65 ∧ Blk w' b133 ([.slice (some ⟨b134, 0, none⟩) c.length 8]) 178 ∧ b133 ∉ [l150] ++ ([D149] ++ ([b119] ++ ([b110] ++ []))) ∧ Sl (Kd.slice Kd.str) ([l150] ++ ([D149] ++ ([b119] ++ ([b110] ++ [])))) w' (some ⟨b134, 0, none⟩) c ∧ Eff [] w w' ∧ True) (fun e w' => (e = .ret ∧ (∀ b, b ∈ [l150] ++ ([D149] ++ ([b119] ++ ([b110] ++ []))) → b < w'.heap.size) ∧ l150 < w'.heap.size ∧ (rightF c = false) ∧ (Kd.array 8 [] (Kd.slice Kd.str) rfl).R ([l150] ++ ([D149] ++ ([b119] ++ ([b110] ++ [])))) w' [v101, v102, v103, v104, v105, v106, v107, v108] c ∧ Blk w' b110 ([v101, v102, v103, v104, v105, v106, v107, v108]) 32 ∧ Blk w' b119 ([.int .i64 2]) 65 ∧ Blk w' b133 ([.slice (some ⟨b134, 0, none⟩) c.length 8]) 178 ∧ b133 ∉ [l150] ++ ([D149] ++ ([b119] ++ ([b110] ++ []))) ∧ Sl (Kd.slice Kd.str) ([l150] ++ ([D149] ++ ([b119] ++ ([b110] ++ [])))) w' (some ⟨b134, 0, none⟩) c ∧ Eff [] w w' ∧ True)) (by kernel_rfl) (by kernel_rfl) e149 (by kernel_rfl) hD151 hl152 ?_ ?_ ?_ nofun nofun ?_ ?_ ?_ ?_ ?_
 ·intro w153 E154 hs155
  have hE156 := hE141.and0 E154
  have := E154.size
  have C157 := Kd.step (Kd.array 8 [] (Kd.slice Kd.str) rfl) C142 (nNew (fresh1' (b := l150) (by omega)) (nNew (fresh1' (b := D149) (by omega)) (nKeep (nKeep same)))) E154 no0
  have B158 := B143.eff0 E154
  have B159 := B144.eff0 E154
  have nm161 := ninN nm140 B148.lt (nNew (fresh1' (b := l150) (by omega)) (nNew (fresh1' (b := D149) (by omega)) (nKeep (nKeep same))))
  have B160 := B148.eff0 E154
  have R162 := R147.step (nNew (fresh1' (b := l150) (by omega)) (nNew (fresh1' (b := D149) (by omega)) (nKeep (nKeep same)))) E154 no0
  have hM163 : Mok ([l150] ++ ([D149] ++ ([b119] ++ ([b110] ++ [])))) w153 := hM145.step E154 (nNew (flt1 (b := l150) (by omega)) (nNew (flt1 (b := D149) (by omega)) (nKeep (nKeep same))))
  exact ⟨(Nat.le_refl _), hM163, (by omega), (by exact allI_none), C157, B158, B159, B160, nm161, R162, hE156, trivial⟩
 ·rintro N170 m169 pre w164 w165 ⟨hm171, hb172, hlt173, hall, F174, F175, F176, F177, nm178, F179, hE180, -⟩ E166 hs167 hlt168
  have hE181 := hE180.and1 E166 (by omega)
  have := E166.size
  have C182 := Kd.step (Kd.array 8 [] (Kd.slice Kd.str) rfl) F174 same E166 (in1 (List.mem_append_left _ (List.mem_singleton.2 rfl)))
  have B183 := F175.eff1 E166 (by omega)
  have B184 := F176.eff1 E166 (by omega)
  have B185 := F177.eff1 E166 (by omega)
  have R186 := F179.step same E166 (in1 (List.mem_append_left _ (List.mem_singleton.2 rfl)))
  have hM187 := (bnd_mok hb172 hm171).eff E166
  exact ⟨(Nat.le_trans hm171 E166.size), hb172, (Nat.lt_of_lt_of_le hlt173 E166.size), (by exact hall), C182, B183, B184, B185, nm178, R186, hE181, trivial⟩
 ·rintro N194 m193 pre w188 w189 ⟨hm195, hb196, hlt197, hall, F198, F199, F200, F201, nm202, F203, hE204, -⟩ E190
  have hE205 := hE204.and0 E190
  have := E190.size
  have C206 := Kd.step (Kd.array 8 [] (Kd.slice Kd.str) rfl) F198 same E190 no0
  have B207 := F199.eff0 E190
  have B208 := F200.eff0 E190
  have B209 := F201.eff0 E190
  have R210 := F203.step same E190 no0
  have hM211 := (bnd_mok hb196 hm195).eff E190
  exact ⟨(Nat.le_trans hm195 E190.size), hb196, (Nat.lt_of_lt_of_le hlt197 E190.size), (by exact hall), C206, B207, B208, B209, nm202, R210, hE205, trivial⟩
 ·rintro e w212 w213 (⟨rfl, hb218, hlt219, hf217, F220, F221, F222, F223, nm224, F225, hE226, -⟩) E214 hs215 hlt216
  have hE227 := hE226.and1 E214 (by omega)
  have := E214.size
  have C228 := Kd.step (Kd.array 8 [] (Kd.slice Kd.str) rfl) F220 same E214 (in1 (List.mem_append_left _ (List.mem_singleton.2 rfl)))
  have B229 := F221.eff1 E214 (by omega)
  have B230 := F222.eff1 E214 (by omega)
  have B231 := F223.eff1 E214 (by omega)
  have R232 := F225.step same E214 (in1 (List.mem_append_left _ (List.mem_singleton.2 rfl)))
  have hM233 := (show Mok ([l150] ++ ([D149] ++ ([b119] ++ ([b110] ++ [])))) w212 from hb218).eff E214
  exact ⟨rfl, (fun b hb => Nat.lt_of_lt_of_le (hb218 b hb) E214.size), (Nat.lt_of_lt_of_le hlt219 E214.size), (by exact hf217), C228, B229, B230, B231, nm224, R232, hE227, trivial⟩
 ·intro w234 J' hs235 E236 hJ237 hst238 _ _
  refine all_seq b133 (some ⟨b134, 0, none⟩) 8 c J' _ (fun N m pre w h => ?_)
  obtain ⟨hm239, hb240, hlt241, hall, F242, F243, F244, F245, nm246, F247, hE248, -⟩ := hJ237 N m pre w h
  exact ⟨F245, F247.wk0⟩
 ·rintro N252 m251 pre x args w249 ⟨hm253, hb254, hlt255, hall, F256, F257, F258, F259, nm260, F261, hE262, -⟩ hx he hlt250
  have hM263 : Mok ([l150] ++ ([D149] ++ ([b119] ++ ([b110] ++ [])))) w249 := (bnd_mok hb254 hm253)
  obtain ⟨_, x267⟩ := x
  obtain ⟨rfl, hx268, hlt269, hq270⟩ := hx
  obtain ⟨a264, cap265, rfl, hsub266⟩ := he
  have R271 := hsub266 _ F261
  have := F261.1
  replace hx268 : c[pre.length]? = some x267 := hx268
  refine ⟨rfl, ?_⟩
  have hC272 := Eff.refl [] w249
  show S _ _ _ c53_n7 _ _ _ _
  refine S.seq (x := c53_n8) (y := c53_n9) (by kernel_rfl) ?_
  refine S.reg (ops := o53_n8) (js := [0]) (by kernel_rfl) (by kernel_rfl) ?_
  refine L.runU [0] [] [(3, .int .i64 (((pre.length : Nat) : Int)))] (by kernel_rfl) (by kernel_rfl) ?_
  refine L.done ?_
  show S _ _ _ c53_n9 _ _ _ _
  refine S.reg (ops := o53_n9) (js := [0]) (by kernel_rfl) (by kernel_rfl) ?_
  refine L.runU [0] [] [(4, .slice a264 x267.length cap265)] (by kernel_rfl) (by kernel_rfl) ?_
  refine L.done ?_
  refine ⟨hC272, ?_⟩
  intro w273 E274 hs275
  have hE276 := hE262.and1 E274 (by omega)
  have := E274.size
  have C277 := Kd.step (Kd.array 8 [] (Kd.slice Kd.str) rfl) F256 same E274 (in1 (List.mem_append_left _ (List.mem_singleton.2 rfl)))
  have B278 := F257.eff1 E274 (by omega)
  have B279 := F258.eff1 E274 (by omega)
  have B280 := F259.eff1 E274 (by omega)
  have R281 := F261.step same E274 (in1 (List.mem_append_left _ (List.mem_singleton.2 rfl)))
  have R282 := R271.step same E274 (in1 (List.mem_append_left _ (List.mem_singleton.2 rfl)))
  have hM283 := hM263.eff E274
  have hC284 := Eff.refl ([b119] ++ [b110]) w273
  show S _ _ _ c53_n10 _ _ _ _
  refine S.block (id := 1) (x := c53_n11) (by kernel_rfl) ?_
  refine S.seq (x := c53_n12) (y := c53_n13) (by kernel_rfl) ?_
  refine S.reg (ops := o53_n12) (js := [0, 1, 2, 3]) (by kernel_rfl) (by kernel_rfl) ?_
  refine L.runU [0] [1, 2, 3] [(10, .int .i64 (((pre.length : Nat) : Int)))] (by kernel_rfl) (by kernel_rfl) ?_
  refine L.call (f := 82) (by kernel_rfl : lookAt _ _ _ _ = some ((Op.call { callee := (Callee.value (Operand.func 82)), args := #[(Operand.tmp 10)], argTypes := #[3] }), some 11)) e82 (by kernel_rfl) (value_ok pre.length _) ?_
  rintro _ w286 E287 ⟨b289, rfl, B290, hb291⟩
  have hE292 := hE276.and0 E287
  have := E287.size
  have hC293 := hC284.and0 E287
  have C294 := Kd.step (Kd.array 8 [] (Kd.slice Kd.str) rfl) C277 same E287 no0
  have B295 := B278.eff0 E287
  have B296 := B279.eff0 E287
  have B297 := B280.eff0 E287
  have R298 := R281.step same E287 no0
  have R299 := R282.step same E287 no0
  have hM300 := hM283.eff E287
  have := B290.lt
  refine L.alloc [.nilFunc] (by kernel_rfl : lookAt _ _ _ _ = some ((Op.alloc 75), some 5)) (by kernel_rfl) ?_
  intro b301 w302 hs303 hz304 E305 B306
  have hE307 := hE292.and0 E305
  have := E305.size
  have hC308 := hC293.and0 E305
  have C309 := Kd.step (Kd.array 8 [] (Kd.slice Kd.str) rfl) C294 (nNew (fresh1 hs303) (nKeep (nKeep (nKeep (nKeep same))))) E305 no0
  have B310 := B295.eff0 E305
  have B311 := B296.eff0 E305
  have nm313 := ninN nm260 B297.lt (nNew (fresh1 hs303) (nKeep (nKeep (nKeep (nKeep same)))))
  have B312 := B297.eff0 E305
  have R314 := R298.step (nNew (fresh1 hs303) (nKeep (nKeep (nKeep (nKeep same))))) E305 no0
  have R315 := R299.step (nNew (fresh1 hs303) (nKeep (nKeep (nKeep (nKeep same))))) E305 no0
  have B316 := B290.eff0 E305
  have hM317 : Mok ([b301] ++ ([l150] ++ ([D149] ++ ([b119] ++ ([b110] ++ []))))) w302 := hM300.step E305 (nNew (flt1 (b := b301) (by omega)) (nKeep (nKeep (nKeep (nKeep same)))))
  refine L.store 0 [.func (.func 123) #[] #[.pointer (some ⟨b289, 0, none⟩)]] [.func (.func 123) #[] #[.pointer (some ⟨b289, 0, none⟩)]] (by kernel_rfl : lookAt _ _ _ _ = some ((Op.store 75 (Operand.tmp 5) (Operand.tmp 11)), none)) (by kernel_rfl) B306 (by kernel_rfl) (by kernel_rfl) (by kernel_rfl) (one_of_all (by kernel_rfl)) (by kernel_rfl) ?_
  intro w318 E319 hz320 B321
  have hE322 := hE307.and1 E319 (by omega)
  have := E319.size
  have hC323 := hC308.and1 E319 (by omega)
  have C324 := Kd.step (Kd.array 8 [] (Kd.slice Kd.str) rfl) C309 same E319 (in1 (List.mem_append_left _ (List.mem_singleton.2 rfl)))
  have B325 := B310.eff1 E319 (by omega)
  have B326 := B311.eff1 E319 (by omega)
  have B327 := B312.eff1 E319 (by omega)
  have R328 := R314.step same E319 (in1 (List.mem_append_left _ (List.mem_singleton.2 rfl)))
  have R329 := R315.step same E319 (in1 (List.mem_append_left _ (List.mem_singleton.2 rfl)))
  have B330 := B316.eff1 E319 (by omega)
  have hM331 := hM317.eff E319
  refine L.done ?_
  show S _ _ _ c53_n13 _ _ _ _
  refine S.seq (x := c53_n14) (y := c53_n15) (by kernel_rfl) ?_
  refine S.reg (ops := o53_n14) (js := [0, 1, 2, 3, 4, 5, 6, 7, 8, 9, 10, 11, 12, 13, 14]) (by kernel_rfl) (by kernel_rfl) ?_
  refine L.runU [0, 1, 2] [3, 4, 5, 6, 7, 8, 9, 10, 11, 12, 13, 14] [(12, .slice a264 x267.length cap265), (13, .int .i64 (((x267.length : Nat) : Int))), (14, .int .i64 (((pre.length : Nat) : Int)))] (by kernel_rfl) (by kernel_rfl) ?_
  refine L.call (f := 83) (by kernel_rfl : lookAt _ _ _ _ = some ((Op.call { callee := (Callee.value (Operand.func 83)), args := #[(Operand.tmp 14)], argTypes := #[3] }), some 15)) e83 (by kernel_rfl) (most83_ok pre.length _ (by omega)) ?_
  rintro _ w333 E334 rfl
  have hE336 := hE322.and0 E334
  have := E334.size
  have hC337 := hC323.and0 E334
  have C338 := Kd.step (Kd.array 8 [] (Kd.slice Kd.str) rfl) C324 same E334 no0
  have B339 := B325.eff0 E334
  have B340 := B326.eff0 E334
  have B341 := B327.eff0 E334
  have R342 := R328.step same E334 no0
  have R343 := R329.step same E334 no0
  have B344 := B330.eff0 E334
  have B345 := B321.eff0 E334
  have hM346 := hM331.eff E334
  refine L.runU [4, 5] [6, 7, 8, 9, 10, 11, 12, 13, 14] [(16, .bool (decide (((mostF pre.length : Nat) : Int) < ((x267.length : Nat) : Int)))), (17, .bool (decide (((mostF pre.length : Nat) : Int) < ((x267.length : Nat) : Int))))] (by kernel_rfl) (by kernel_rfl) ?_
  refine X.splitP (G := fun σ => L _ _ _ _ _ _ σ _ _) (((mostF pre.length : Nat) : Int) < ((x267.length : Nat) : Int)) 17 (by kernel_rfl) (fun h347 => ?_) (fun h347 => ?_)
  ·refine L.runU [6, 7, 8, 9, 10, 11, 12, 13, 14] [] [(18, undef), (19, undef), (20, undef), (21, .bool true), (22, .bool true), (23, undef), (24, undef), (25, undef), (26, .bool true)] (by kernel_rfl) (by kernel_rfl) ?_
   refine L.done ?_
   show S _ _ _ c53_n15 _ _ _ _
   refine S.condT (o := (Operand.tmp 26)) (x := c53_n16) (y := c53_n19) (by kernel_rfl) (by kernel_rfl) ?_
   refine S.seq (x := c53_n17) (y := c53_n18) (by kernel_rfl) ?_
   refine S.reg (ops := o53_n17) (js := [0]) (by kernel_rfl) (by kernel_rfl) ?_
   refine L.store 0 [.int .i64 2] [.int .i64 2] (by kernel_rfl : lookAt _ _ _ _ = some ((Op.store 65 (Operand.tmp 2) (Operand.const (Value.int IntKind.i64 2))), none)) (by kernel_rfl) B340 (by kernel_rfl) (by kernel_rfl) (by kernel_rfl) (one_of_all (by kernel_rfl)) (by kernel_rfl) ?_
   intro w348 E349 hz350 B351
   have hE352 := hE336.and1 E349 (by omega)
   have := E349.size
   have hC353 := hC337.andIn E349 (in1 (by simp))
   have C354 := Kd.step (Kd.array 8 [] (Kd.slice Kd.str) rfl) C338 same E349 (in1 (List.mem_append_right _ (List.mem_append_right _ (List.mem_append_right _ (List.mem_append_left _ (List.mem_singleton.2 rfl))))))
   have B355 := B339.eff1 E349 (by omega)
   have B356 := B341.eff1 E349 (by omega)
   have R357 := R342.step same E349 (in1 (List.mem_append_right _ (List.mem_append_right _ (List.mem_append_right _ (List.mem_append_left _ (List.mem_singleton.2 rfl))))))
   have R358 := R343.step same E349 (in1 (List.mem_append_right _ (List.mem_append_right _ (List.mem_append_right _ (List.mem_append_left _ (List.mem_singleton.2 rfl))))))
   have B359 := B344.eff1 E349 (by omega)
   have B360 := B345.eff1 E349 (by omega)
   have hM361 := hM346.eff E349
   refine L.done ?_
   show S _ _ _ c53_n18 _ _ _ _
   refine S.ret (by kernel_rfl) ?_
   have hsub362 : ∀ b, b ∈ [l150] ++ ([D149] ++ ([b119] ++ ([b110] ++ []))) → b ∈ [b301] ++ ([l150] ++ ([D149] ++ ([b119] ++ ([b110] ++ [])))) := (sDrop sSame)
   have hM363 : Mok ([l150] ++ ([D149] ++ ([b119] ++ ([b110] ++ [])))) w348 := hM361.sub hsub362
   have F364 := Kd.sub (Kd.array 8 [] (Kd.slice Kd.str) rfl) C354 hsub362
   have nm365 : b133 ∉ [l150] ++ ([D149] ++ ([b119] ++ ([b110] ++ []))) := fun h => nm313 (hsub362 _ h)
   have F366 := R357.sub hsub362
   have F367 := R358.sub hsub362
   exact ⟨⟨_, hC353, (nin (notin1 (by omega)) (notin1 (by omega))), (nin (notin1 (by omega)) (notin1 (by omega)))⟩, ⟨rfl, hM363, (by omega), (by exact chk_bad (f := pre.length) (by omega) (by rw [getD_of hx268, Bool.eq_false_iff]; intro hcon; simp only [chkF, Bool.and_eq_true, Bool.not_eq_true', decide_eq_true_eq] at hcon; obtain ⟨⟨q1, q2⟩, q3⟩ := hcon; first | omega | (rw [q2] at *; simp_all; done) | simp_all)), F364, B355, B351, B356, nm365, F366, hE352, trivial⟩⟩
  ·refine L.runU [6, 7] [8, 9, 10, 11, 12, 13, 14] [(18, .slice a264 x267.length cap265), (19, .func (.func 85) #[] #[.pointer (some ⟨b301, 0, none⟩)])] (by kernel_rfl) (by kernel_rfl) ?_
   refine L.call (f := 84) (by kernel_rfl : lookAt _ _ _ _ = some ((Op.call { callee := (Callee.value (Operand.func 84)), args := #[(Operand.tmp 18), (Operand.tmp 19)], argTypes := #[30, 75] }), some 20)) e84 (by kernel_rfl) (cont84_ok a264 cap265 x267 (.func (.func 85) #[] #[.pointer (some ⟨b301, 0, none⟩)]) (fun x => !valOk pre.length x) _ R343.wk0 (fun w' x hx E => .fn (first := #[]) (cap := #[.pointer (some ⟨b301, 0, none⟩)]) e85 (chk85_ok x b301 b289 pre.length w' hx (B345.eff0 E) (B344.eff0 E)))) ?_
   rintro _ w369 E370 rfl
   have hE372 := hE336.and0 E370
   have := E370.size
   have hC373 := hC337.and0 E370
   have C374 := Kd.step (Kd.array 8 [] (Kd.slice Kd.str) rfl) C338 same E370 no0
   have B375 := B339.eff0 E370
   have B376 := B340.eff0 E370
   have B377 := B341.eff0 E370
   have R378 := R342.step same E370 no0
   have R379 := R343.step same E370 no0
   have B380 := B344.eff0 E370
   have B381 := B345.eff0 E370
   have hM382 := hM346.eff E370
   refine L.runU [9, 10] [11, 12, 13, 14] [(21, .bool (x267.any (fun x => !valOk pre.length x))), (22, .bool (x267.any (fun x => !valOk pre.length x)))] (by kernel_rfl) (by kernel_rfl) ?_
   refine X.splitB (G := fun σ => L _ _ _ _ _ _ σ _ _) (x267.any (fun x => !valOk pre.length x)) 22 (by kernel_rfl) (fun h383 => ?_) (fun h383 => ?_)
   ·refine L.runU [11, 12, 13, 14] [] [(23, undef), (24, undef), (25, undef), (26, .bool true)] (by kernel_rfl) (by kernel_rfl) ?_
    refine L.done ?_
    show S _ _ _ c53_n15 _ _ _ _
    refine S.condT (o := (Operand.tmp 26)) (x := c53_n16) (y := c53_n19) (by kernel_rfl) (by kernel_rfl) ?_
    refine S.seq (x := c53_n17) (y := c53_n18) (by kernel_rfl) ?_
    refine S.reg (ops := o53_n17) (js := [0]) (by kernel_rfl) (by kernel_rfl) ?_
    refine L.store 0 [.int .i64 2] [.int .i64 2] (by kernel_rfl : lookAt _ _ _ _ = some ((Op.store 65 (Operand.tmp 2) (Operand.const (Value.int IntKind.i64 2))), none)) (by kernel_rfl) B376 (by kernel_rfl) (by kernel_rfl) (by kernel_rfl) (one_of_all (by kernel_rfl)) (by kernel_rfl) ?_
    intro w384 E385 hz386 B387
    have hE388 := hE372.and1 E385 (by omega)
    have := E385.size
    have hC389 := hC373.andIn E385 (in1 (by simp))
    have C390 := Kd.step (Kd.array 8 [] (Kd.slice Kd.str) rfl) C374 same E385 (in1 (List.mem_append_right _ (List.mem_append_right _ (List.mem_append_right _ (List.mem_append_left _ (List.mem_singleton.2 rfl))))))
    have B391 := B375.eff1 E385 (by omega)
    have B392 := B377.eff1 E385 (by omega)
    have R393 := R378.step same E385 (in1 (List.mem_append_right _ (List.mem_append_right _ (List.mem_append_right _ (List.mem_append_left _ (List.mem_singleton.2 rfl))))))
    have R394 := R379.step same E385 (in1 (List.mem_append_right _ (List.mem_append_right _ (List.mem_append_right _ (List.mem_append_left _ (List.mem_singleton.2 rfl))))))
    have B395 := B380.eff1 E385 (by omega)
    have B396 := B381.eff1 E385 (by omega)
    have hM397 := hM382.eff E385
    refine L.done ?_
    show S _ _ _ c53_n18 _ _ _ _
    refine S.ret (by kernel_rfl) ?_
    have hsub398 : ∀ b, b ∈ [l150] ++ ([D149] ++ ([b119] ++ ([b110] ++ []))) → b ∈ [b301] ++ ([l150] ++ ([D149] ++ ([b119] ++ ([b110] ++ [])))) := (sDrop sSame)
    have hM399 : Mok ([l150] ++ ([D149] ++ ([b119] ++ ([b110] ++ [])))) w384 := hM397.sub hsub398
    have F400 := Kd.sub (Kd.array 8 [] (Kd.slice Kd.str) rfl) C390 hsub398
    have nm401 : b133 ∉ [l150] ++ ([D149] ++ ([b119] ++ ([b110] ++ []))) := fun h => nm313 (hsub398 _ h)
    have F402 := R393.sub hsub398
    have F403 := R394.sub hsub398
    exact ⟨⟨_, hC389, (nin (notin1 (by omega)) (notin1 (by omega))), (nin (notin1 (by omega)) (notin1 (by omega)))⟩, ⟨rfl, hM399, (by omega), (by exact chk_bad (f := pre.length) (by omega) (by rw [getD_of hx268, Bool.eq_false_iff]; intro hcon; simp only [chkF, Bool.and_eq_true, Bool.not_eq_true', decide_eq_true_eq] at hcon; obtain ⟨⟨q1, q2⟩, q3⟩ := hcon; first | omega | (rw [q2] at *; simp_all; done) | simp_all)), F400, B391, B387, B392, nm401, F402, hE388, trivial⟩⟩
   ·refine L.runU [11] [12, 13, 14] [(23, .slice a264 x267.length cap265)] (by kernel_rfl) (by kernel_rfl) ?_
    refine L.call (f := 86) (by kernel_rfl : lookAt _ _ _ _ = some ((Op.call { callee := (Callee.value (Operand.func 86)), args := #[(Operand.tmp 23)], argTypes := #[30] }), some 24)) e86 (by kernel_rfl) (rises_ok a264 cap265 x267 _ R379.wk0) ?_
    rintro _ w405 E406 rfl
    have hE408 := hE372.and0 E406
    have := E406.size
    have hC409 := hC373.and0 E406
    have C410 := Kd.step (Kd.array 8 [] (Kd.slice Kd.str) rfl) C374 same E406 no0
    have B411 := B375.eff0 E406
    have B412 := B376.eff0 E406
    have B413 := B377.eff0 E406
    have R414 := R378.step same E406 no0
    have R415 := R379.step same E406 no0
    have B416 := B380.eff0 E406
    have B417 := B381.eff0 E406
    have hM418 := hM382.eff E406
    refine L.runU [13, 14] [] [(25, .bool (!(risesF x267))), (26, .bool (!(risesF x267)))] (by kernel_rfl) (by kernel_rfl) ?_
    refine L.done ?_
    show S _ _ _ c53_n15 _ _ _ _
    refine S.cond (!(risesF x267)) (o := (Operand.tmp 26)) (x := c53_n16) (y := c53_n19) (by kernel_rfl) (by kernel_rfl) (fun h419 => ?_) (fun h419 => ?_)
    ·refine S.seq (x := c53_n17) (y := c53_n18) (by kernel_rfl) ?_
     refine S.reg (ops := o53_n17) (js := [0]) (by kernel_rfl) (by kernel_rfl) ?_
     refine L.store 0 [.int .i64 2] [.int .i64 2] (by kernel_rfl : lookAt _ _ _ _ = some ((Op.store 65 (Operand.tmp 2) (Operand.const (Value.int IntKind.i64 2))), none)) (by kernel_rfl) B412 (by kernel_rfl) (by kernel_rfl) (by kernel_rfl) (one_of_all (by kernel_rfl)) (by kernel_rfl) ?_
     intro w420 E421 hz422 B423
     have hE424 := hE408.and1 E421 (by omega)
     have := E421.size
     have hC425 := hC409.andIn E421 (in1 (by simp))
     have C426 := Kd.step (Kd.array 8 [] (Kd.slice Kd.str) rfl) C410 same E421 (in1 (List.mem_append_right _ (List.mem_append_right _ (List.mem_append_right _ (List.mem_append_left _ (List.mem_singleton.2 rfl))))))
     have B427 := B411.eff1 E421 (by omega)
     have B428 := B413.eff1 E421 (by omega)
     have R429 := R414.step same E421 (in1 (List.mem_append_right _ (List.mem_append_right _ (List.mem_append_right _ (List.mem_append_left _ (List.mem_singleton.2 rfl))))))
     have R430 := R415.step same E421 (in1 (List.mem_append_right _ (List.mem_append_right _ (List.mem_append_right _ (List.mem_append_left _ (List.mem_singleton.2 rfl))))))
     have B431 := B416.eff1 E421 (by omega)
     have B432 := B417.eff1 E421 (by omega)
     have hM433 := hM418.eff E421
     refine L.done ?_
     show S _ _ _ c53_n18 _ _ _ _
     refine S.ret (by kernel_rfl) ?_
     have hsub434 : ∀ b, b ∈ [l150] ++ ([D149] ++ ([b119] ++ ([b110] ++ []))) → b ∈ [b301] ++ ([l150] ++ ([D149] ++ ([b119] ++ ([b110] ++ [])))) := (sDrop sSame)
     have hM435 : Mok ([l150] ++ ([D149] ++ ([b119] ++ ([b110] ++ [])))) w420 := hM433.sub hsub434
     have F436 := Kd.sub (Kd.array 8 [] (Kd.slice Kd.str) rfl) C426 hsub434
     have nm437 : b133 ∉ [l150] ++ ([D149] ++ ([b119] ++ ([b110] ++ []))) := fun h => nm313 (hsub434 _ h)
     have F438 := R429.sub hsub434
     have F439 := R430.sub hsub434
     exact ⟨⟨_, hC425, (nin (notin1 (by omega)) (notin1 (by omega))), (nin (notin1 (by omega)) (notin1 (by omega)))⟩, ⟨rfl, hM435, (by omega), (by exact chk_bad (f := pre.length) (by omega) (by rw [getD_of hx268, Bool.eq_false_iff]; intro hcon; simp only [chkF, Bool.and_eq_true, Bool.not_eq_true', decide_eq_true_eq] at hcon; obtain ⟨⟨q1, q2⟩, q3⟩ := hcon; first | omega | (rw [q2] at *; simp_all; done) | simp_all)), F436, B427, B423, B428, nm437, F438, hE424, trivial⟩⟩
    ·refine S.skip (by kernel_rfl) ?_
     have hsub440 : ∀ b, b ∈ [l150] ++ ([D149] ++ ([b119] ++ ([b110] ++ []))) → b ∈ [b301] ++ ([l150] ++ ([D149] ++ ([b119] ++ ([b110] ++ [])))) := (sDrop sSame)
     have hM441 : Mok ([l150] ++ ([D149] ++ ([b119] ++ ([b110] ++ [])))) w405 := hM418.sub hsub440
     have F442 := Kd.sub (Kd.array 8 [] (Kd.slice Kd.str) rfl) C410 hsub440
     have nm443 : b133 ∉ [l150] ++ ([D149] ++ ([b119] ++ ([b110] ++ []))) := fun h => nm313 (hsub440 _ h)
     have F444 := R414.sub hsub440
     have F445 := R415.sub hsub440
     show (_ ∧ _)
     exact ⟨⟨_, hC409, (nin (notin1 (by omega)) (notin1 (by omega))), (nin (notin1 (by omega)) (notin1 (by omega)))⟩, ⟨(Nat.le_refl _), hM441, (by omega), (by rw [List.length_append]; exact allI_snoc (P := fun j => chkF j (c.getD j [])) hall (by show chkF pre.length (c.getD pre.length []) = true; rw [getD_of hx268]; simp only [chkF, Bool.and_eq_true, Bool.not_eq_true', decide_eq_true_eq]; exact ⟨⟨by omega, by assumption⟩, by simp_all⟩)), F442, B411, B412, B413, nm443, F444, hE408, trivial⟩⟩
 ·rintro N450 m449 pre w446 hF ⟨hm451, hb452, hlt453, hall, F454, F455, F456, F457, nm458, F459, hE460, -⟩ hlt447 DB448
  have hM461 : Mok ([l150] ++ ([D149] ++ ([b119] ++ ([b110] ++ [])))) w446 := bnd_mok hb452 hm451
  show S _ _ _ c53_1_1 _ _ _ _
  refine S.seq (x := c53_1_1_0) (y := c53_1_1_1) (by kernel_rfl) ?_
  refine S.seq (x := c53_n22) (y := c53_n23) (by kernel_rfl) ?_
  refine S.reg (ops := o53_n22) (js := [0, 1, 2, 3]) (by kernel_rfl) (by kernel_rfl) ?_
  obtain ⟨a462, cap463, hv464, R465⟩ := arr_at F454 (j := 0) (by omega)
  have A466 : CAt [] w446 ((⟨b110, 0, none⟩ : Addr).add 0) [.slice a462 (c.getD 0 []).length cap463] := .arr (off := 0) (pre := []) (cs := [v101, v102, v103, v104, v105, v106, v107, v108]) F455 rfl hv464
  refine L.val (.pointer (some ((⟨b110, 0, none⟩ : Addr).add 0))) (by kernel_rfl : lookAt _ _ _ _ = some ((Op.indexAddr 32 (Operand.tmp 1) (Operand.const (Value.int IntKind.i64 0))), some 27)) (by intro c e; cases e) (rx_indexAddrArr (e := 30) (sz := 1) (p := (⟨b110, 0, none⟩ : Addr)) (m := 8) (kk := .i64) (i := 0) 0 0 (by kernel_rfl) (by kernel_rfl) (by kernel_rfl) (by kernel_rfl) (by omega) (by omega) (by omega)) ?_
  refine L.val (.slice a462 ((c.getD 0 []).length) cap463) (by kernel_rfl : lookAt _ _ _ _ = some ((Op.load 30 (Operand.tmp 27)), some 28)) (by intro c e; cases e) (rx_load 0 (.slice a462 ((c.getD 0 []).length) cap463) (A466.1) (by kernel_rfl) (by kernel_rfl)) ?_
  refine L.runU [2, 3] [] [(29, .int .i64 ((((c.getD 0 []).length : Nat) : Int))), (30, .bool (!decide ((((c.getD 0 []).length : Nat) : Int) = 1)))] (by kernel_rfl) (by kernel_rfl) ?_
  refine L.done ?_
  show S _ _ _ c53_n23 _ _ _ _
  refine S.condN ((((c.getD 0 []).length : Nat) : Int) = 1) (o := (Operand.tmp 30)) (x := c53_n24) (y := c53_n27) (by kernel_rfl) (by kernel_rfl) (fun h467 => ?_) (fun h467 => ?_)
  ·refine S.seq (x := c53_n25) (y := c53_n26) (by kernel_rfl) ?_
   refine S.reg (ops := o53_n25) (js := [0]) (by kernel_rfl) (by kernel_rfl) ?_
   refine L.store 0 [.int .i64 2] [.int .i64 2] (by kernel_rfl : lookAt _ _ _ _ = some ((Op.store 65 (Operand.tmp 2) (Operand.const (Value.int IntKind.i64 2))), none)) (by kernel_rfl) F456 (by kernel_rfl) (by kernel_rfl) (by kernel_rfl) (one_of_all (by kernel_rfl)) (by kernel_rfl) ?_
   intro w468 E469 hz470 B471
   have hE472 := hE460.and1 E469 (by omega)
   have := E469.size
   have C473 := Kd.step (Kd.array 8 [] (Kd.slice Kd.str) rfl) F454 same E469 (in1 (List.mem_append_right _ (List.mem_append_right _ (List.mem_append_left _ (List.mem_singleton.2 rfl)))))
   have B474 := F455.eff1 E469 (by omega)
   have B475 := F457.eff1 E469 (by omega)
   have R476 := F459.step same E469 (in1 (List.mem_append_right _ (List.mem_append_right _ (List.mem_append_left _ (List.mem_singleton.2 rfl)))))
   have DB477 := DB448.eff E469 (notin1 (by omega))
   have R478 := R465.step same E469 (in1 (List.mem_append_right _ (List.mem_append_right _ (List.mem_append_left _ (List.mem_singleton.2 rfl)))))
   have hM479 := hM461.eff E469
   refine L.done ?_
   show S _ _ _ c53_n26 _ _ _ _
   refine S.ret (by kernel_rfl) ?_
   show Leave _ _ _ _ _ _ _ _
   refine Leave.mark (D := D149) (by intro h; cases h) DB477 ?_
   intro w480 E481 hs482
   have hE483 := hE472.and1 E481 (by omega)
   have := E481.size
   have C484 := Kd.step (Kd.array 8 [] (Kd.slice Kd.str) rfl) C473 same E481 (in1 (List.mem_append_right _ (List.mem_append_left _ (List.mem_singleton.2 rfl))))
   have B485 := B474.eff1 E481 (by omega)
   have B486 := B475.eff1 E481 (by omega)
   have R487 := R476.step same E481 (in1 (List.mem_append_right _ (List.mem_append_left _ (List.mem_singleton.2 rfl))))
   have R488 := R478.step same E481 (in1 (List.mem_append_right _ (List.mem_append_left _ (List.mem_singleton.2 rfl))))
   have B489 := B471.eff1 E481 (by omega)
   have hM490 := hM479.eff E481
   show Leave _ _ _ _ _ _ _ _
   refine Leave.ret1 (x := .cell 2 65) (.int .i64 2) (by kernel_rfl) (.ofC 0 (by kernel_rfl) B489.cells (by kernel_rfl)) ?_
   refine ⟨_, rfl, hE483, ?_⟩
   exact congrArg _ (by rw [if_neg]; first | simpa using hbad | exact right_one (by omega))
  ·refine S.skip (by kernel_rfl) ?_
   show S _ _ _ c53_1_1_1 _ _ _ _
   refine S.seq (x := c53_n29) (y := c53_n30) (by kernel_rfl) ?_
   refine S.reg (ops := o53_n29) (js := [0]) (by kernel_rfl) (by kernel_rfl) ?_
   refine L.store 0 [.int .i64 0] [.int .i64 0] (by kernel_rfl : lookAt _ _ _ _ = some ((Op.store 65 (Operand.tmp 2) (Operand.const (Value.int IntKind.i64 0))), none)) (by kernel_rfl) F456 (by kernel_rfl) (by kernel_rfl) (by kernel_rfl) (one_of_all (by kernel_rfl)) (by kernel_rfl) ?_
   intro w491 E492 hz493 B494
   have hE495 := hE460.and1 E492 (by omega)
   have := E492.size
   have C496 := Kd.step (Kd.array 8 [] (Kd.slice Kd.str) rfl) F454 same E492 (in1 (List.mem_append_right _ (List.mem_append_right _ (List.mem_append_left _ (List.mem_singleton.2 rfl)))))
   have B497 := F455.eff1 E492 (by omega)
   have B498 := F457.eff1 E492 (by omega)
   have R499 := F459.step same E492 (in1 (List.mem_append_right _ (List.mem_append_right _ (List.mem_append_left _ (List.mem_singleton.2 rfl)))))
   have DB500 := DB448.eff E492 (notin1 (by omega))
   have R501 := R465.step same E492 (in1 (List.mem_append_right _ (List.mem_append_right _ (List.mem_append_left _ (List.mem_singleton.2 rfl)))))
   have hM502 := hM461.eff E492
   refine L.done ?_
   show S _ _ _ c53_n30 _ _ _ _
   refine S.ret (by kernel_rfl) ?_
   show Leave _ _ _ _ _ _ _ _
   refine Leave.mark (D := D149) (by intro h; cases h) DB500 ?_
   intro w503 E504 hs505
   have hE506 := hE495.and1 E504 (by omega)
   have := E504.size
   have C507 := Kd.step (Kd.array 8 [] (Kd.slice Kd.str) rfl) C496 same E504 (in1 (List.mem_append_right _ (List.mem_append_left _ (List.mem_singleton.2 rfl))))
   have B508 := B497.eff1 E504 (by omega)
   have B509 := B498.eff1 E504 (by omega)
   have R510 := R499.step same E504 (in1 (List.mem_append_right _ (List.mem_append_left _ (List.mem_singleton.2 rfl))))
   have R511 := R501.step same E504 (in1 (List.mem_append_right _ (List.mem_append_left _ (List.mem_singleton.2 rfl))))
   have B512 := B494.eff1 E504 (by omega)
   have hM513 := hM502.eff E504
   show Leave _ _ _ _ _ _ _ _
   refine Leave.ret1 (x := .cell 2 65) (.int .i64 0) (by kernel_rfl) (.ofC 0 (by kernel_rfl) B512.cells (by kernel_rfl)) ?_
   refine ⟨_, rfl, hE506, ?_⟩
   exact congrArg _ (by rw [if_pos (right_chk hF.1 hall hlen (by omega))])
 ·rintro e w514 (⟨rfl, hb517, hlt518, hbad, F519, F520, F521, F522, nm523, F524, hE525, -⟩) hlt515 DB516 -
  have hM526 : Mok ([l150] ++ ([D149] ++ ([b119] ++ ([b110] ++ [])))) w514 := hb517
  show Leave _ _ _ _ _ _ _ _
  refine Leave.mark (D := D149) (by intro h; cases h) DB516 ?_
  intro w527 E528 hs529
  have hE530 := hE525.and1 E528 (by omega)
  have := E528.size
  have C531 := Kd.step (Kd.array 8 [] (Kd.slice Kd.str) rfl) F519 same E528 (in1 (List.mem_append_right _ (List.mem_append_left _ (List.mem_singleton.2 rfl))))
  have B532 := F520.eff1 E528 (by omega)
  have B533 := F521.eff1 E528 (by omega)
  have B534 := F522.eff1 E528 (by omega)
  have R535 := F524.step same E528 (in1 (List.mem_append_right _ (List.mem_append_left _ (List.mem_singleton.2 rfl))))
  have hM536 := hM526.eff E528
  show Leave _ _ _ _ _ _ _ _
  refine Leave.ret1 (x := .cell 2 65) (.int .i64 2) (by kernel_rfl) (.ofC 0 (by kernel_rfl) B533.cells (by kernel_rfl)) ?_
  refine ⟨_, rfl, hE530, ?_⟩
  exact congrArg _ (by rw [if_neg]; first | simpa using hbad | exact right_one (by omega))
end Go.Proofs.YtjleeadiadpiaaaGreatDoor
namespace Go.Proofs.YtjleeadiadpiaaaGreatDoor
open Go Go.Fx Go.RowKit
noncomputable def c87 : Code := bodyOf Tryz.f87
noncomputable def c87_0 : Code := kid 0 c87
noncomputable def o87_0 : Array Oper := regOps c87_0
noncomputable def c87_1 : Code := kid 1 c87
noncomputable def c87_1_0 : Code := kid 0 c87_1
noncomputable def c87_1_0_0 : Code := kid 0 c87_1_0
noncomputable def o87_1_0_0 : Array Oper := regOps c87_1_0_0
noncomputable def c87_1_0_1 : Code := kid 1 c87_1_0
noncomputable def c87_n6 : Code := kid 0 c87_1_0_1
noncomputable def c87_n7 : Code := kid 0 c87_n6
noncomputable def o87_n7 : Array Oper := regOps c87_n7
noncomputable def c87_n8 : Code := kid 1 c87_n6
noncomputable def c87_n9 : Code := kid 1 c87_1_0_1
noncomputable def c87_1_1 : Code := kid 1 c87_1
noncomputable def c87_1_1_0 : Code := kid 0 c87_1_1
noncomputable def o87_1_1_0 : Array Oper := regOps c87_1_1_0
noncomputable def c87_1_1_1 : Code := kid 1 c87_1_1
set_option maxHeartbeats 400000 in
theorem clone_ok (M : List Nat) (a : Option Addr) (cap : Nat) (l : List Str) (w : World) (hM : Mok M w) (h : Sl Kd.str M w a l) (hl : l.length ≤ 1048576) : Calls Tryz.prog 87 #[.slice a l.length cap] w (RetW [] w fun v w' => ∃ b c, v = .slice b l.length c ∧ Sl Kd.str M w' b l) := by
 refine calls_of_S (n := 8) (c := c87) Tryz.func87 (by kernel_rfl) (by kernel_rfl) (Nat.le_of_ble_eq_true (by kernel_rfl)) ?_
 have hE0 : Eff [] w w := Eff.refl _ _
 refine S.seq (x := c87_0) (y := c87_1) (by kernel_rfl) ?_
 refine S.reg (ops := o87_0) (js := [0]) (by kernel_rfl) (by kernel_rfl) ?_
 refine L.runU [0] [] [(2, .slice none 0 0)] (by kernel_rfl) (by kernel_rfl) ?_
 refine L.done ?_
 show S _ _ _ c87_1 _ _ _ _
 refine S.seq (x := c87_1_0) (y := c87_1_1) (by kernel_rfl) ?_
 refine S.seq (x := c87_1_0_0) (y := c87_1_0_1) (by kernel_rfl) ?_
 refine S.reg (ops := o87_1_0_0) (js := [0, 1]) (by kernel_rfl) (by kernel_rfl) ?_
 refine L.runU [0] [1] [(3, .slice a l.length cap)] (by kernel_rfl) (by kernel_rfl) ?_
 refine L.val (.bool a.isNone) (by kernel_rfl : lookAt _ _ _ _ = some ((Op.binOp BinOp.eql 30 (Operand.tmp 3) (Operand.const (Value.slice Option.none 0 0)) 30), some 4)) (by intro c e; cases e) (rx_slNil (a := a) (len := l.length) (cap := cap) (e := 9) (by kernel_rfl) (by kernel_rfl) (by kernel_rfl)) ?_
 refine L.done ?_
 show S _ _ _ c87_1_0_1 _ _ _ _
 refine S.cond (a.isNone) (o := (Operand.tmp 4)) (x := c87_n6) (y := c87_n9) (by kernel_rfl) (by kernel_rfl) (fun h101 => ?_) (fun h101 => ?_)
 ·refine S.seq (x := c87_n7) (y := c87_n8) (by kernel_rfl) ?_
  refine S.reg (ops := o87_n7) (js := [0]) (by kernel_rfl) (by kernel_rfl) ?_
  refine L.runU [0] [] [(2, .slice none 0 0)] (by kernel_rfl) (by kernel_rfl) ?_
  refine L.done ?_
  show S _ _ _ c87_n8 _ _ _ _
  refine S.ret (by kernel_rfl) ?_
  show Leave _ _ _ _ _ _ _ _
  refine Leave.ret1 (x := .tmp 2) (.slice none 0 0) (by kernel_rfl) (.ofT (by kernel_rfl)) ?_
  have hn : a = none := by simpa using ‹a.isNone = true›
  subst hn
  have hl0 := h.none_nil
  subst hl0
  exact ⟨_, rfl, hE0, _, _, rfl, Sl.nil _ _ _ _⟩
 ·refine S.skip (by kernel_rfl) ?_
  show S _ _ _ c87_1_1 _ _ _ _
  refine S.seq (x := c87_1_1_0) (y := c87_1_1_1) (by kernel_rfl) ?_
  refine S.reg (ops := o87_1_1_0) (js := [0, 1, 2, 3]) (by kernel_rfl) (by kernel_rfl) ?_
  refine L.ownEmpty Kd.str 9 w.heap.size (M) (by kernel_rfl : lookAt _ _ _ _ = some ((Op.buildSlice 30 0 #[]), some 5)) (by intro c e; cases e) (fun w => by kernel_rfl) hM (by omega) ?_
  intro b102 w103 hs104 hz105 E106 O107
  have hE108 := hE0.and0 E106
  have := E106.size
  have R109 := h.step (nNew (freshOb (b := b102) (n := 0) (c := 0) (by omega)) same) E106 no0
  have hM110 : Mok (ob (.slice (some ⟨b102, 0, none⟩) 0 0) ++ M) w103 := hM.step E106 (nNew (fun b hb => (O107.lt b hb).2) same)
  refine L.runU [1] [2, 3] [(6, .slice a l.length cap)] (by kernel_rfl) (by kernel_rfl) ?_
  refine L.append (K := Kd.str) (e := 9) (base := w.heap.size) (bytes := 16) (M := M) (v := .slice (some ⟨b102, 0, none⟩) 0 0) (xs := []) (ys := l) (a := a) (cap := cap) (by kernel_rfl : lookAt _ _ _ _ = some ((Op.call { callee := (Callee.builtin Builtin.append), args := #[(Operand.tmp 5), (Operand.tmp 6)], argTypes := #[30, 30] }), some 7)) (by kernel_rfl) (by kernel_rfl) (by kernel_rfl) (by kernel_rfl) O107 R109 (hM110.sub (sDrop sSame)) (by (simp only [List.length_cons, List.length_nil, List.length_append, List.length_take, List.length_drop, List.length_map, List.length_replicate] <;> omega)) (by omega) hE108.size ?_
  intro v111 w112 O113 E114 hat115
  obtain ⟨a116, cap117, rfl⟩ := O113.slice
  simp only [List.nil_append] at O113 hat115
  have hat118 := hatN hat115
  have hE119 := hE108.andMem E114 (memOwn O107 (Nat.le_refl _))
  have := E114.size
  have R120 := R109.step (nTurn hat118 same) E114 (fun _ h => List.mem_append_left _ (h))
  have hM121 : Mok (ob (.slice a116 ((l).length) cap117) ++ M) w112 := hM110.step E114 (nTurn (fun b hb => .inr ((fun b hb => (O113.lt b hb).2) b hb)) same)
  refine L.runU [3] [] [(2, .slice a116 ((l).length) cap117)] (by kernel_rfl) (by kernel_rfl) ?_
  refine L.done ?_
  show S _ _ _ c87_1_1_1 _ _ _ _
  refine S.ret (by kernel_rfl) ?_
  show Leave _ _ _ _ _ _ _ _
  refine Leave.ret1 (x := .tmp 2) (.slice a116 ((l).length) cap117) (by kernel_rfl) (.ofT (by kernel_rfl)) ?_
  refine ⟨_, rfl, hE119, _, _, rfl, (O113.sl (by omega)).weak (fun b hb => .inl hb)⟩
noncomputable def c55 : Code := bodyOf Tryz.f55
noncomputable def c55_0 : Code := kid 0 c55
noncomputable def o55_0 : Array Oper := regOps c55_0
noncomputable def c55_1 : Code := kid 1 c55
noncomputable def c55_1_0 : Code := kid 0 c55_1
noncomputable def c55_1_0_0 : Code := kid 0 c55_1_0
noncomputable def o55_1_0_0 : Array Oper := regOps c55_1_0_0
noncomputable def c55_1_0_1 : Code := kid 1 c55_1_0
noncomputable def c55_n6 : Code := kid 0 c55_1_0_1
noncomputable def c55_n7 : Code := kid 0 c55_n6
noncomputable def c55_n8 : Code := kid 0 c55_n7
noncomputable def o55_n8 : Array Oper := regOps c55_n8
noncomputable def c55_n9 : Code := kid 1 c55_n7
noncomputable def o55_n9 : Array Oper := regOps c55_n9
noncomputable def c55_n10 : Code := kid 1 c55_n6
noncomputable def c55_n11 : Code := kid 0 c55_n10
noncomputable def o55_n11 : Array Oper := regOps c55_n11
noncomputable def c55_1_1 : Code := kid 1 c55_1
noncomputable def c55_1_1_0 : Code := kid 0 c55_1_1
noncomputable def o55_1_1_0 : Array Oper := regOps c55_1_1_0
noncomputable def c55_1_1_1 : Code := kid 1 c55_1_1
set_option maxHeartbeats 400000 in
theorem copy_ok (M : List Nat) (cs : List Value) (c : List (List Str)) (w : World) (hM : Mok M w) (h : kCt.R M w cs c) (hb : ∀ j, (c.getD j []).length ≤ 1048576) : Calls Tryz.prog 55 #[.agg (cs).toArray] w (RetW [] w fun v w' => ∃ cs', v = .agg cs'.toArray ∧ kCt.R M w' cs' c) := by
 refine calls_of_S (n := 14) (c := c55) Tryz.func55 (by kernel_rfl) (by kernel_rfl) (Nat.le_of_ble_eq_true (by kernel_rfl)) ?_
 obtain ⟨v101, v102, v103, v104, v105, v106, v107, v108, rfl, C109⟩ := h
 have hlen : c.length = 8 := C109.2.1
 have hE0 : Eff [] w w := Eff.refl _ _
 refine S.seq (x := c55_0) (y := c55_1) (by kernel_rfl) ?_
 refine S.reg (ops := o55_0) (js := [0, 1]) (by kernel_rfl) (by kernel_rfl) ?_
 refine L.box [v101, v102, v103, v104, v105, v106, v107, v108] (by kernel_rfl : lookAt _ _ _ _ = some ((Op.box 32 (Operand.tmp 0)), some 1)) (by kernel_rfl) ?_
 intro b110 w111 hs112 hz113 E114 B115
 have hE116 := hE0.and0 E114
 have := E114.size
 have C117 := Kd.step (Kd.array 8 [] (Kd.slice Kd.str) rfl) C109 (nNew (fresh1 hs112) same) E114 no0
 have hM118 : Mok ([b110] ++ M) w111 := hM.step E114 (nNew (flt1 (b := b110) (by omega)) same)
 refine L.alloc [.slice none 0 0, .slice none 0 0, .slice none 0 0, .slice none 0 0, .slice none 0 0, .slice none 0 0, .slice none 0 0, .slice none 0 0] (by kernel_rfl : lookAt _ _ _ _ = some ((Op.alloc 32), some 2)) (by kernel_rfl) ?_
 intro b119 w120 hs121 hz122 E123 B124
 have hE125 := hE116.and0 E123
 have := E123.size
 have C126 := Kd.step (Kd.array 8 [] (Kd.slice Kd.str) rfl) C117 (nNew (fresh1 hs121) (nKeep same)) E123 no0
 have B127 := B115.eff0 E123
 have hM128 : Mok ([b119] ++ ([b110] ++ M)) w120 := hM118.step E123 (nNew (flt1 (b := b119) (by omega)) (nKeep same))
 refine L.done ?_
 show S _ _ _ c55_1 _ _ _ _
 refine S.seq (x := c55_1_0) (y := c55_1_1) (by kernel_rfl) ?_
 refine S.seq (x := c55_1_0_0) (y := c55_1_0_1) (by kernel_rfl) ?_
 refine S.reg (ops := o55_1_0_0) (js := [0, 1]) (by kernel_rfl) (by kernel_rfl) ?_
 refine L.val (.agg #[v101, v102, v103, v104, v105, v106, v107, v108]) (by kernel_rfl : lookAt _ _ _ _ = some ((Op.load 32 (Operand.tmp 1)), some 5)) (by intro c e; cases e) (rx_load 0 (.agg #[v101, v102, v103, v104, v105, v106, v107, v108]) (B127.cells) (by kernel_rfl) (by kernel_rfl)) ?_
 refine L.call (f := 81) (by kernel_rfl : lookAt _ _ _ _ = some ((Op.call { callee := (Callee.value (Operand.func 81)), args := #[(Operand.tmp 5)], argTypes := #[32] }), some 6)) e81 (by kernel_rfl) (fields_ok [v101, v102, v103, v104, v105, v106, v107, v108] c _ (Kd.wk0 kCt ⟨_, _, _, _, _, _, _, _, rfl, C126⟩)) ?_
 rintro _ w130 E131 ⟨b133, b134, rfl, B135, B136, hb137, hb138, hb139⟩
 have nm140 := not_mem_of_ge (b := b133) hM128 hb137
 have hE141 := hE125.and0 E131
 have := E131.size
 have C142 := Kd.step (Kd.array 8 [] (Kd.slice Kd.str) rfl) C126 same E131 no0
 have B143 := B127.eff0 E131
 have B144 := B124.eff0 E131
 have hM145 := hM128.eff E131
 have := B135.lt
 have := B136.lt
 have nm146 : b134 ∉ ([b119] ++ ([b110] ++ M)) := not_mem_of_ge hM128 hb138
 have hlenR147 : c.length = 8 := C142.2.1
 have B148 : Blk w130 b133 [.slice (some ⟨b134, 0, none⟩) c.length 8] 178 := by rw [hlenR147]; exact B135
 have R147 := Sl.ofArr B136 nm146 C142 (by omega)
 refine L.done ?_
 show S _ _ _ c55_1_0_1 _ _ _ _
 refine S.block (id := 0) (x := c55_n6) (by kernel_rfl) ?_
 obtain ⟨cs1, B149, C150⟩ : ∃ cs1, Blk w130 b110 cs1 32 ∧ (Kd.array 8 [] (Kd.slice Kd.str) rfl).R ([b119] ++ ([b110] ++ M)) w130 cs1 c := ⟨_, B143, C142⟩
 have := B144.lt
 have := B148.lt
 have := B149.lt
 obtain ⟨D151, hD153⟩ : ∃ D, w130.heap.size = D := ⟨_, rfl⟩
 obtain ⟨l152, hl154⟩ : ∃ l, D151 + 1 = l := ⟨_, rfl⟩
 refine S.range (α := Nat × List Str) (g := (Operand.tmp 6)) (ps := #[7, 8]) (assign := c55_n7) (body := c55_n10) (gf := 149) (lb := #[.pointer (some ⟨b133, 0, none⟩)]) false D151 l152 (encRow Kd.str (some ⟨b134, 0, none⟩) c) (nxL c) (finL c) (fun N m pre w' => ∃ (cs1 : List Value), m ≤ w'.heap.size ∧ (∀ b, b ∈ [l152] ++ ([D151] ++ ([b119] ++ ([b110] ++ M))) → b < m) ∧ l152 < w'.heap.size ∧ Blk w' b119 ([.slice none 0 0, .slice none 0 0, .slice none 0 0, .slice none 0 0, .slice none 0 0, .slice none 0 0, .slice none 0 0, .slice none 0 0]) 32 ∧ Blk w' b133 ([.slice (some ⟨b134, 0, none⟩) c.length 8]) 178 ∧ b133 ∉ [l152] ++ ([D151] ++ ([b119] ++ ([b110] ++ M))) ∧ Sl (Kd.slice Kd.str) ([l152] ++ ([D151] ++ ([b119] ++ ([b110] ++ M)))) w' (some ⟨b134, 0, none⟩) c ∧ Blk w' b110 (cs1) 32 ∧ (Kd.array 8 [] (Kd.slice Kd.str) rfl).R ([l152] ++ ([D151] ++ ([b119] ++ ([b110] ++ M)))) w' cs1 c ∧ Eff [] w w' ∧ True) (fun e w' => False) (by kernel_rfl) (by kernel_rfl) e149 (by kernel_rfl) hD153 hl154 ?_ ?_ ?_ nofun nofun ?_ ?_ ?_ ?_ ?_
 ·intro w155 E156 hs157
  have hE158 := hE141.and0 E156
  have := E156.size
  have B159 := B144.eff0 E156
  have nm161 := ninN nm140 B148.lt (nNew (fresh1' (b := l152) (by omega)) (nNew (fresh1' (b := D151) (by omega)) (nKeep (nKeep same))))
  have B160 := B148.eff0 E156
  have R162 := R147.step (nNew (fresh1' (b := l152) (by omega)) (nNew (fresh1' (b := D151) (by omega)) (nKeep (nKeep same)))) E156 no0
  have B163 := B149.eff0 E156
  have C164 := Kd.step (Kd.array 8 [] (Kd.slice Kd.str) rfl) C150 (nNew (fresh1' (b := l152) (by omega)) (nNew (fresh1' (b := D151) (by omega)) (nKeep (nKeep same)))) E156 no0
  have hM165 : Mok ([l152] ++ ([D151] ++ ([b119] ++ ([b110] ++ M)))) w155 := hM145.step E156 (nNew (flt1 (b := l152) (by omega)) (nNew (flt1 (b := D151) (by omega)) (nKeep (nKeep same))))
  exact ⟨cs1, (Nat.le_refl _), hM165, (by omega), B159, B160, nm161, R162, B163, C164, hE158, trivial⟩
 ·rintro N172 m171 pre w166 w167 ⟨cs1, hm173, hb174, hlt175, F176, F177, nm178, F179, F180, F181, hE182, -⟩ E168 hs169 hlt170
  have hE183 := hE182.and1 E168 (by omega)
  have := E168.size
  have B184 := F176.eff1 E168 (by omega)
  have B185 := F177.eff1 E168 (by omega)
  have R186 := F179.step same E168 (in1 (List.mem_append_left _ (List.mem_singleton.2 rfl)))
  have B187 := F180.eff1 E168 (by omega)
  have C188 := Kd.step (Kd.array 8 [] (Kd.slice Kd.str) rfl) F181 same E168 (in1 (List.mem_append_left _ (List.mem_singleton.2 rfl)))
  have hM189 := (bnd_mok hb174 hm173).eff E168
  exact ⟨cs1, (Nat.le_trans hm173 E168.size), hb174, (Nat.lt_of_lt_of_le hlt175 E168.size), B184, B185, nm178, R186, B187, C188, hE183, trivial⟩
 ·rintro N196 m195 pre w190 w191 ⟨cs1, hm197, hb198, hlt199, F200, F201, nm202, F203, F204, F205, hE206, -⟩ E192
  have hE207 := hE206.and0 E192
  have := E192.size
  have B208 := F200.eff0 E192
  have B209 := F201.eff0 E192
  have R210 := F203.step same E192 no0
  have B211 := F204.eff0 E192
  have C212 := Kd.step (Kd.array 8 [] (Kd.slice Kd.str) rfl) F205 same E192 no0
  have hM213 := (bnd_mok hb198 hm197).eff E192
  exact ⟨cs1, (Nat.le_trans hm197 E192.size), hb198, (Nat.lt_of_lt_of_le hlt199 E192.size), B208, B209, nm202, R210, B211, C212, hE207, trivial⟩
 ·rintro e w1 w2 h
  exact h.elim
 ·intro w219 J' hs220 E221 hJ222 hst223 _ _
  refine all_seq b133 (some ⟨b134, 0, none⟩) 8 c J' _ (fun N m pre w h => ?_)
  obtain ⟨cs1, hm224, hb225, hlt226, F227, F228, nm229, F230, F231, F232, hE233, -⟩ := hJ222 N m pre w h
  exact ⟨F228, F230.wk0⟩
 ·rintro N237 m236 pre x args w234 ⟨cs1, hm238, hb239, hlt240, F241, F242, nm243, F244, F245, F246, hE247, -⟩ hx he hlt235
  have hM248 : Mok ([l152] ++ ([D151] ++ ([b119] ++ ([b110] ++ M)))) w234 := (bnd_mok hb239 hm238)
  obtain ⟨_, x252⟩ := x
  obtain ⟨rfl, hx253, hlt254, hq255⟩ := hx
  obtain ⟨a249, cap250, rfl, hsub251⟩ := he
  have R256 := hsub251 _ F244
  have := F244.1
  replace hx253 : c[pre.length]? = some x252 := hx253
  refine ⟨rfl, ?_⟩
  have hC257 := Eff.refl [] w234
  show S _ _ _ c55_n7 _ _ _ _
  refine S.seq (x := c55_n8) (y := c55_n9) (by kernel_rfl) ?_
  refine S.reg (ops := o55_n8) (js := [0]) (by kernel_rfl) (by kernel_rfl) ?_
  refine L.runU [0] [] [(3, .int .i64 (((pre.length : Nat) : Int)))] (by kernel_rfl) (by kernel_rfl) ?_
  refine L.done ?_
  show S _ _ _ c55_n9 _ _ _ _
  refine S.reg (ops := o55_n9) (js := [0]) (by kernel_rfl) (by kernel_rfl) ?_
  refine L.runU [0] [] [(4, .slice a249 x252.length cap250)] (by kernel_rfl) (by kernel_rfl) ?_
  refine L.done ?_
  refine ⟨hC257, ?_⟩
  intro w258 E259 hs260
  have hE261 := hE247.and1 E259 (by omega)
  have := E259.size
  have B262 := F241.eff1 E259 (by omega)
  have B263 := F242.eff1 E259 (by omega)
  have R264 := F244.step same E259 (in1 (List.mem_append_left _ (List.mem_singleton.2 rfl)))
  have B265 := F245.eff1 E259 (by omega)
  have C266 := Kd.step (Kd.array 8 [] (Kd.slice Kd.str) rfl) F246 same E259 (in1 (List.mem_append_left _ (List.mem_singleton.2 rfl)))
  have R267 := R256.step same E259 (in1 (List.mem_append_left _ (List.mem_singleton.2 rfl)))
  have hM268 := hM248.eff E259
  have hC269 := Eff.refl ([b119] ++ [b110]) w258
  show S _ _ _ c55_n10 _ _ _ _
  refine S.block (id := 1) (x := c55_n11) (by kernel_rfl) ?_
  refine S.reg (ops := o55_n11) (js := [0, 1, 2, 3, 4]) (by kernel_rfl) (by kernel_rfl) ?_
  refine L.runU [0, 1] [2, 3, 4] [(9, .int .i64 (((pre.length : Nat) : Int))), (10, .slice a249 x252.length cap250)] (by kernel_rfl) (by kernel_rfl) ?_
  refine L.call (f := 87) (by kernel_rfl : lookAt _ _ _ _ = some ((Op.call { callee := (Callee.value (Operand.func 87)), args := #[(Operand.tmp 10)], argTypes := #[30] }), some 11)) e87 (by kernel_rfl) (clone_ok ([l152] ++ ([D151] ++ ([b119] ++ ([b110] ++ M)))) a249 cap250 x252 _ hM268 R267 (by have := hb pre.length; rw [getD_of hx253] at this; exact this)) ?_
  rintro _ w271 E272 ⟨b274, c275, rfl, R276⟩
  have hE277 := hE261.and0 E272
  have := E272.size
  have hC278 := hC269.and0 E272
  have B279 := B262.eff0 E272
  have B280 := B263.eff0 E272
  have R281 := R264.step same E272 no0
  have B282 := B265.eff0 E272
  have C283 := Kd.step (Kd.array 8 [] (Kd.slice Kd.str) rfl) C266 same E272 no0
  have R284 := R267.step same E272 no0
  have hM285 := hM268.eff E272
  refine L.val (.pointer (some ((⟨b110, 0, none⟩ : Addr).add pre.length))) (by kernel_rfl : lookAt _ _ _ _ = some ((Op.indexAddr 32 (Operand.tmp 1) (Operand.tmp 9)), some 12)) (by intro c e; cases e) (rx_indexAddrArr (e := 30) (sz := 1) (p := (⟨b110, 0, none⟩ : Addr)) (m := 8) (kk := .i64) (i := ((pre.length : Nat) : Int)) pre.length pre.length (by kernel_rfl) (by kernel_rfl) (by kernel_rfl) (by kernel_rfl) (by omega) (by omega) (by omega)) ?_
  refine L.storeArr (off := 0) pre.length (.slice b274 x252.length c275) (by kernel_rfl : lookAt _ _ _ _ = some ((Op.store 30 (Operand.tmp 12) (Operand.tmp 11)), none)) (by kernel_rfl) B282 (by kernel_rfl) (by kernel_rfl) (by have := C283.1; omega) (by kernel_rfl) ?_
  intro w286 E287 hz288 B289
  rw [Nat.zero_add] at B289
  have hE290 := hE277.and1 E287 (by omega)
  have := E287.size
  have hC291 := hC278.andIn E287 (in1 (by simp))
  have B292 := B279.eff1 E287 (by omega)
  have B293 := B280.eff1 E287 (by omega)
  have R294 := R281.step same E287 (in1 (List.mem_append_right _ (List.mem_append_right _ (List.mem_append_right _ (List.mem_append_left _ (List.mem_singleton.2 rfl))))))
  have C295 := Kd.step (Kd.array 8 [] (Kd.slice Kd.str) rfl) C283 same E287 (in1 (List.mem_append_right _ (List.mem_append_right _ (List.mem_append_right _ (List.mem_append_left _ (List.mem_singleton.2 rfl))))))
  have R296 := R284.step same E287 (in1 (List.mem_append_right _ (List.mem_append_right _ (List.mem_append_right _ (List.mem_append_left _ (List.mem_singleton.2 rfl))))))
  have R297 := R276.step same E287 (in1 (List.mem_append_right _ (List.mem_append_right _ (List.mem_append_right _ (List.mem_append_left _ (List.mem_singleton.2 rfl))))))
  have hM298 := hM285.eff E287
  have C299 := arr_set_same (j := pre.length) (cap := c275) C295 R297 hx253
  refine L.done ?_
  show (_ ∧ _)
  exact ⟨⟨_, hC291, (nin (notin1 (by omega)) (notin1 (by omega))), (nin (notin1 (by omega)) (notin1 (by omega)))⟩, ⟨cs1.set pre.length (.slice b274 x252.length c275), (Nat.le_refl _), hM298, (by omega), B292, B293, nm243, R294, B289, C299, hE290, trivial⟩⟩
 ·rintro N304 m303 pre w300 hF ⟨cs1, hm305, hb306, hlt307, F308, F309, nm310, F311, F312, F313, hE314, -⟩ hlt301 DB302
  have hM315 : Mok ([l152] ++ ([D151] ++ ([b119] ++ ([b110] ++ M)))) w300 := bnd_mok hb306 hm305
  obtain ⟨u316, u317, u318, u319, u320, u321, u322, u323, rfl⟩ := cells8 F313.1
  show S _ _ _ c55_1_1 _ _ _ _
  refine S.seq (x := c55_1_1_0) (y := c55_1_1_1) (by kernel_rfl) ?_
  refine S.reg (ops := o55_1_1_0) (js := [0, 1]) (by kernel_rfl) (by kernel_rfl) ?_
  refine L.val (.agg #[u316, u317, u318, u319, u320, u321, u322, u323]) (by kernel_rfl : lookAt _ _ _ _ = some ((Op.load 32 (Operand.tmp 1)), some 13)) (by intro c e; cases e) (rx_load 0 (.agg #[u316, u317, u318, u319, u320, u321, u322, u323]) (F312.cells) (by kernel_rfl) (by kernel_rfl)) ?_
  refine L.store 0 [u316, u317, u318, u319, u320, u321, u322, u323] [u316, u317, u318, u319, u320, u321, u322, u323] (by kernel_rfl : lookAt _ _ _ _ = some ((Op.store 32 (Operand.tmp 2) (Operand.tmp 13)), none)) (by kernel_rfl) F308 (by kernel_rfl) (by kernel_rfl) (by kernel_rfl) (Kd.one (Kd.array 8 [] (Kd.slice Kd.str) rfl) F313) (by kernel_rfl) ?_
  intro w324 E325 hz326 B327
  have hE328 := hE314.and1 E325 (by omega)
  have := E325.size
  have B329 := F309.eff1 E325 (by omega)
  have R330 := F311.step same E325 (in1 (List.mem_append_right _ (List.mem_append_right _ (List.mem_append_left _ (List.mem_singleton.2 rfl)))))
  have B331 := F312.eff1 E325 (by omega)
  have C332 := Kd.step (Kd.array 8 [] (Kd.slice Kd.str) rfl) F313 same E325 (in1 (List.mem_append_right _ (List.mem_append_right _ (List.mem_append_left _ (List.mem_singleton.2 rfl)))))
  have DB333 := DB302.eff E325 (notin1 (by omega))
  have hM334 := hM315.eff E325
  refine L.done ?_
  show S _ _ _ c55_1_1_1 _ _ _ _
  refine S.ret (by kernel_rfl) ?_
  show Leave _ _ _ _ _ _ _ _
  refine Leave.mark (D := D151) (by intro h; cases h) DB333 ?_
  intro w335 E336 hs337
  have hE338 := hE328.and1 E336 (by omega)
  have := E336.size
  have B339 := B329.eff1 E336 (by omega)
  have R340 := R330.step same E336 (in1 (List.mem_append_right _ (List.mem_append_left _ (List.mem_singleton.2 rfl))))
  have B341 := B331.eff1 E336 (by omega)
  have C342 := Kd.step (Kd.array 8 [] (Kd.slice Kd.str) rfl) C332 same E336 (in1 (List.mem_append_right _ (List.mem_append_left _ (List.mem_singleton.2 rfl))))
  have B343 := B327.eff1 E336 (by omega)
  have hM344 := hM334.eff E336
  show Leave _ _ _ _ _ _ _ _
  refine Leave.ret1 (x := .cell 2 32) (.agg #[u316, u317, u318, u319, u320, u321, u322, u323]) (by kernel_rfl) (.ofC 0 (by kernel_rfl) B343.cells (by kernel_rfl)) ?_
  have hsub345 : ∀ b, b ∈ M → b ∈ [l152] ++ ([D151] ++ ([b119] ++ ([b110] ++ M))) := (sDrop (sDrop (sDrop (sDrop sSame))))
  have hM346 : Mok (M) w335 := hM344.sub hsub345
  have nm347 : b133 ∉ M := fun h => nm310 (hsub345 _ h)
  have F348 := R340.sub hsub345
  have F349 := Kd.sub (Kd.array 8 [] (Kd.slice Kd.str) rfl) C342 hsub345
  refine ⟨_, rfl, hE338, [u316, u317, u318, u319, u320, u321, u322, u323], rfl, ⟨_, _, _, _, _, _, _, _, rfl, F349⟩⟩
 ·rintro e w1 h
  exact h.elim
end Go.Proofs.YtjleeadiadpiaaaGreatDoor
namespace Go.Proofs.YtjleeadiadpiaaaGreatDoor
open Go Go.Fx Go.RowKit
def cutpF (l p : Str) : Str := if p.length ≤ l.length ∧ l.take p.length = p then l.drop p.length else l
theorem cutpF_len (l p : Str) : (cutpF l p).length ≤ l.length := by
 unfold cutpF
 split
 ·simp
 ·exact Nat.le_refl _
theorem href_yes {l : Str} (h : ([47, 98, 111, 111, 107, 47] : Str).length ≤ l.length ∧ l.take ([47, 98, 111, 111, 107, 47] : Str).length = [47, 98, 111, 111, 107, 47]) : plainF (cutpF l [47, 98, 111, 111, 107, 47]) = hrefF l := by
 rw [cutpF, if_pos h, hrefF]
 have h2 : l.take 6 = [47, 98, 111, 111, 107, 47] := h.2
 show plainF (l.drop 6) = _
 rw [h2]
 by_cases h6 : 6 < l.length
 ·simp [h6]
 ·have : l.drop 6 = [] := List.drop_of_length_le (by omega)
  simp [h6, this, plainF, lenIn]
theorem href_no {l : Str} (h : ¬ (([47, 98, 111, 111, 107, 47] : Str).length ≤ l.length ∧ l.take ([47, 98, 111, 111, 107, 47] : Str).length = [47, 98, 111, 111, 107, 47])) : false = hrefF l := by
 rw [hrefF]
 by_cases h6 : 6 < l.length
 ·have : ¬ l.take 6 = [47, 98, 111, 111, 107, 47] := fun e => h ⟨by simp only [List.length_cons, List.length_nil]; omega, e⟩
  simp [this]
 ·simp [h6]
noncomputable def c136 : Code := bodyOf Tryz.f136
noncomputable def c136_0 : Code := kid 0 c136
noncomputable def o136_0 : Array Oper := regOps c136_0
noncomputable def c136_1 : Code := kid 1 c136
noncomputable def c136_1_0 : Code := kid 0 c136_1
noncomputable def o136_1_0 : Array Oper := regOps c136_1_0
noncomputable def c136_1_1 : Code := kid 1 c136_1
set_option maxHeartbeats 400000 in
theorem hasp_ok (l p : Str) (w : World) (hl : l.length < 4611686018427387904) (hp : p.length < 4611686018427387904) : Calls Tryz.prog 136 #[sv l, sv p] w (RetW [] w fun v _ => v = .bool (decide (p.length ≤ l.length ∧ l.take p.length = p))) := by
 refine calls_of_S (n := 18) (c := c136) Tryz.func136 (by kernel_rfl) (by kernel_rfl) (Nat.le_of_ble_eq_true (by kernel_rfl)) ?_
 have hE0 : Eff [] w w := Eff.refl _ _
 refine S.seq (x := c136_0) (y := c136_1) (by kernel_rfl) ?_
 refine S.reg (ops := o136_0) (js := [0]) (by kernel_rfl) (by kernel_rfl) ?_
 refine L.runU [0] [] [(4, .bool false)] (by kernel_rfl) (by kernel_rfl) ?_
 refine L.done ?_
 show S _ _ _ c136_1 _ _ _ _
 refine S.seq (x := c136_1_0) (y := c136_1_1) (by kernel_rfl) ?_
 refine S.reg (ops := o136_1_0) (js := [0, 1, 2, 3, 4, 5, 6, 7, 8, 9, 10, 11, 12, 13]) (by kernel_rfl) (by kernel_rfl) ?_
 refine L.runU [0, 1, 2, 3, 4, 5] [6, 7, 8, 9, 10, 11, 12, 13] [(5, sv l), (6, .int .i64 (((l.length : Nat) : Int))), (7, sv p), (8, .int .i64 (((p.length : Nat) : Int))), (9, .bool (decide (((p.length : Nat) : Int) ≤ ((l.length : Nat) : Int)))), (10, .bool (decide (((p.length : Nat) : Int) ≤ ((l.length : Nat) : Int))))] (by kernel_rfl) (by kernel_rfl) ?_
 refine X.splitP (G := fun σ => L _ _ _ _ _ _ σ _ _) (((p.length : Nat) : Int) ≤ ((l.length : Nat) : Int)) 10 (by kernel_rfl) (fun h101 => ?_) (fun h101 => ?_)
 ·refine L.runU [6, 7, 8] [9, 10, 11, 12, 13] [(11, sv l), (12, sv p), (13, .int .i64 (((p.length : Nat) : Int)))] (by kernel_rfl) (by kernel_rfl) ?_
  refine L.val (sv (l.take p.length)) (by kernel_rfl : lookAt _ _ _ _ = some ((Op.slice 9 (Operand.tmp 11) Option.none (Option.some (Operand.tmp 13)) Option.none), some 14)) (by intro c e; cases e) (rx_strTo (k2 := .i64) (i2 := ((p.length : Nat) : Int)) l p.length (by kernel_rfl) (by kernel_rfl) (by kernel_rfl) (by omega) (by omega)) ?_
  refine L.runU [10] [11, 12, 13] [(15, sv p)] (by kernel_rfl) (by kernel_rfl) ?_
  refine L.val (.bool (decide (l.take p.length = p))) (by kernel_rfl : lookAt _ _ _ _ = some ((Op.binOp BinOp.eql 9 (Operand.tmp 14) (Operand.tmp 15) 9), some 16)) (by intro c e; cases e) (rx_strEql (l.take p.length) p (by kernel_rfl) (by kernel_rfl)) ?_
  refine L.runU [12, 13] [] [(17, .bool (decide (l.take p.length = p))), (4, .bool (decide (l.take p.length = p)))] (by kernel_rfl) (by kernel_rfl) ?_
  refine L.done ?_
  show S _ _ _ c136_1_1 _ _ _ _
  refine S.ret (by kernel_rfl) ?_
  show Leave _ _ _ _ _ _ _ _
  refine Leave.ret1 (x := .tmp 4) (.bool (decide (l.take p.length = p))) (by kernel_rfl) (.ofT (by kernel_rfl)) ?_
  refine ⟨_, rfl, hE0, ?_⟩
  exact bool_eq (by (first | rfl | (rw [Bool.eq_iff_iff]; simp only [Bool.and_eq_true, Bool.or_eq_true, Bool.not_eq_true', decide_eq_true_eq, decide_eq_false_iff_not, Bool.and_true, Bool.true_and, Bool.and_false, Bool.false_and, Bool.or_true, Bool.true_or, Bool.or_false, Bool.false_or, Bool.not_true, Bool.not_false, Bool.false_eq_true, false_iff, iff_false, true_iff, iff_true, eq_self_iff_true, not_true_eq_false, not_false_eq_true]; omega) | (grind []) | (simp []; done) | (rw [Bool.eq_iff_iff]; simp []; done) | (rw [Bool.eq_iff_iff]; simp []; omega) | (simp_all []; done) | (rw [Bool.eq_iff_iff]; simp_all []; done) | (rw [Bool.eq_iff_iff]; simp_all []; omega)))
 ·refine L.runU [6, 7, 8, 9, 10, 11, 12, 13] [] [(11, undef), (12, undef), (13, undef), (14, undef), (15, undef), (16, undef), (17, .bool false), (4, .bool false)] (by kernel_rfl) (by kernel_rfl) ?_
  refine L.done ?_
  show S _ _ _ c136_1_1 _ _ _ _
  refine S.ret (by kernel_rfl) ?_
  show Leave _ _ _ _ _ _ _ _
  refine Leave.ret1 (x := .tmp 4) (.bool false) (by kernel_rfl) (.ofT (by kernel_rfl)) ?_
  refine ⟨_, rfl, hE0, ?_⟩
  exact bool_eq (by (first | rfl | (rw [Bool.eq_iff_iff]; simp only [Bool.and_eq_true, Bool.or_eq_true, Bool.not_eq_true', decide_eq_true_eq, decide_eq_false_iff_not, Bool.and_true, Bool.true_and, Bool.and_false, Bool.false_and, Bool.or_true, Bool.true_or, Bool.or_false, Bool.false_or, Bool.not_true, Bool.not_false, Bool.false_eq_true, false_iff, iff_false, true_iff, iff_true, eq_self_iff_true, not_true_eq_false, not_false_eq_true]; omega) | (grind []) | (simp []; done) | (rw [Bool.eq_iff_iff]; simp []; done) | (rw [Bool.eq_iff_iff]; simp []; omega) | (simp_all []; done) | (rw [Bool.eq_iff_iff]; simp_all []; done) | (rw [Bool.eq_iff_iff]; simp_all []; omega)))
noncomputable def c97 : Code := bodyOf Tryz.f97
noncomputable def c97_0 : Code := kid 0 c97
noncomputable def o97_0 : Array Oper := regOps c97_0
noncomputable def c97_1 : Code := kid 1 c97
noncomputable def c97_1_0 : Code := kid 0 c97_1
noncomputable def c97_1_0_0 : Code := kid 0 c97_1_0
noncomputable def o97_1_0_0 : Array Oper := regOps c97_1_0_0
noncomputable def c97_1_0_1 : Code := kid 1 c97_1_0
noncomputable def c97_n6 : Code := kid 0 c97_1_0_1
noncomputable def c97_n7 : Code := kid 0 c97_n6
noncomputable def o97_n7 : Array Oper := regOps c97_n7
noncomputable def c97_n8 : Code := kid 1 c97_n6
noncomputable def c97_n9 : Code := kid 1 c97_1_0_1
noncomputable def c97_1_1 : Code := kid 1 c97_1
noncomputable def c97_1_1_0 : Code := kid 0 c97_1_1
noncomputable def o97_1_1_0 : Array Oper := regOps c97_1_1_0
noncomputable def c97_1_1_1 : Code := kid 1 c97_1_1
set_option maxHeartbeats 400000 in
theorem cutp_ok (l p : Str) (w : World) (hl : l.length < 4611686018427387904) (hp : p.length < 4611686018427387904) : Calls Tryz.prog 97 #[sv l, sv p] w (RetW [] w fun v _ => v = .tuple #[sv (cutpF l p), .bool (decide (p.length ≤ l.length ∧ l.take p.length = p))]) := by
 refine calls_of_S (n := 15) (c := c97) Tryz.func97 (by kernel_rfl) (by kernel_rfl) (Nat.le_of_ble_eq_true (by kernel_rfl)) ?_
 have hE0 : Eff [] w w := Eff.refl _ _
 refine S.seq (x := c97_0) (y := c97_1) (by kernel_rfl) ?_
 refine S.reg (ops := o97_0) (js := [0, 1]) (by kernel_rfl) (by kernel_rfl) ?_
 refine L.runU [0, 1] [] [(4, sv []), (5, .bool false)] (by kernel_rfl) (by kernel_rfl) ?_
 refine L.done ?_
 show S _ _ _ c97_1 _ _ _ _
 refine S.seq (x := c97_1_0) (y := c97_1_1) (by kernel_rfl) ?_
 refine S.seq (x := c97_1_0_0) (y := c97_1_0_1) (by kernel_rfl) ?_
 refine S.reg (ops := o97_1_0_0) (js := [0, 1, 2, 3]) (by kernel_rfl) (by kernel_rfl) ?_
 refine L.runU [0, 1] [2, 3] [(6, sv l), (7, sv p)] (by kernel_rfl) (by kernel_rfl) ?_
 refine L.call (f := 136) (by kernel_rfl : lookAt _ _ _ _ = some ((Op.call { callee := (Callee.value (Operand.func 136)), args := #[(Operand.tmp 6), (Operand.tmp 7)], argTypes := #[9, 9] }), some 8)) e136 (by kernel_rfl) (hasp_ok l p _ (by omega) (by omega)) ?_
 rintro _ w102 E103 rfl
 have hE105 := hE0.and0 E103
 have := E103.size
 refine L.runU [3] [] [(9, .bool (!decide (p.length ≤ l.length ∧ l.take p.length = p)))] (by kernel_rfl) (by kernel_rfl) ?_
 refine L.done ?_
 show S _ _ _ c97_1_0_1 _ _ _ _
 refine S.condN (p.length ≤ l.length ∧ l.take p.length = p) (o := (Operand.tmp 9)) (x := c97_n6) (y := c97_n9) (by kernel_rfl) (by kernel_rfl) (fun h106 => ?_) (fun h106 => ?_)
 ·refine S.seq (x := c97_n7) (y := c97_n8) (by kernel_rfl) ?_
  refine S.reg (ops := o97_n7) (js := [0, 1, 2]) (by kernel_rfl) (by kernel_rfl) ?_
  refine L.runU [0, 1, 2] [] [(10, sv l), (4, sv l), (5, .bool false)] (by kernel_rfl) (by kernel_rfl) ?_
  refine L.done ?_
  show S _ _ _ c97_n8 _ _ _ _
  refine S.ret (by kernel_rfl) ?_
  show Leave _ _ _ _ _ _ _ _
  refine Leave.ret2 (x := .tmp 4) (y := .tmp 5) (sv l) (.bool false) (by kernel_rfl) (.ofT (by kernel_rfl)) (.ofT (by kernel_rfl)) ?_
  refine ⟨_, rfl, hE105, ?_⟩
  first | (have hh : p.length ≤ l.length ∧ l.take p.length = p := ‹_›; rw [cutpF, if_pos hh, decide_eq_true hh]; done) | (have hh : ¬ (p.length ≤ l.length ∧ l.take p.length = p) := ‹_›; rw [cutpF, if_neg hh, decide_eq_false hh])
 ·refine S.skip (by kernel_rfl) ?_
  show S _ _ _ c97_1_1 _ _ _ _
  refine S.seq (x := c97_1_1_0) (y := c97_1_1_1) (by kernel_rfl) ?_
  refine S.reg (ops := o97_1_1_0) (js := [0, 1, 2, 3, 4, 5]) (by kernel_rfl) (by kernel_rfl) ?_
  refine L.runU [0, 1, 2] [3, 4, 5] [(11, sv l), (12, sv p), (13, .int .i64 (((p.length : Nat) : Int)))] (by kernel_rfl) (by kernel_rfl) ?_
  refine L.val (sv (l.drop p.length)) (by kernel_rfl : lookAt _ _ _ _ = some ((Op.slice 9 (Operand.tmp 11) (Option.some (Operand.tmp 13)) Option.none Option.none), some 14)) (by intro c e; cases e) (rx_strFrom (k1 := .i64) (i1 := ((p.length : Nat) : Int)) l p.length (by kernel_rfl) (by kernel_rfl) (by kernel_rfl) (by omega) (by omega)) ?_
  refine L.runU [4, 5] [] [(4, sv (l.drop p.length)), (5, .bool true)] (by kernel_rfl) (by kernel_rfl) ?_
  refine L.done ?_
  show S _ _ _ c97_1_1_1 _ _ _ _
  refine S.ret (by kernel_rfl) ?_
  show Leave _ _ _ _ _ _ _ _
  refine Leave.ret2 (x := .tmp 4) (y := .tmp 5) (sv (l.drop p.length)) (.bool true) (by kernel_rfl) (.ofT (by kernel_rfl)) (.ofT (by kernel_rfl)) ?_
  refine ⟨_, rfl, hE105, ?_⟩
  first | (have hh : p.length ≤ l.length ∧ l.take p.length = p := ‹_›; rw [cutpF, if_pos hh, decide_eq_true hh]; done) | (have hh : ¬ (p.length ≤ l.length ∧ l.take p.length = p) := ‹_›; rw [cutpF, if_neg hh, decide_eq_false hh])
noncomputable def c61 : Code := bodyOf Tryz.f61
noncomputable def c61_0 : Code := kid 0 c61
noncomputable def o61_0 : Array Oper := regOps c61_0
noncomputable def c61_1 : Code := kid 1 c61
noncomputable def c61_1_0 : Code := kid 0 c61_1
noncomputable def o61_1_0 : Array Oper := regOps c61_1_0
noncomputable def c61_1_1 : Code := kid 1 c61_1
set_option maxHeartbeats 400000 in
theorem cutp2_ok (l p : Str) (w : World) (hl : l.length < 4611686018427387904) (hp : p.length < 4611686018427387904) : Calls Tryz.prog 61 #[sv l, sv p] w (RetW [] w fun v _ => v = .tuple #[sv (cutpF l p), .bool (decide (p.length ≤ l.length ∧ l.take p.length = p))]) := by
 refine calls_of_S (n := 11) (c := c61) Tryz.func61 (by kernel_rfl) (by kernel_rfl) (Nat.le_of_ble_eq_true (by kernel_rfl)) ?_
 have hE0 : Eff [] w w := Eff.refl _ _
 refine S.seq (x := c61_0) (y := c61_1) (by kernel_rfl) ?_
 refine S.reg (ops := o61_0) (js := [0, 1]) (by kernel_rfl) (by kernel_rfl) ?_
 refine L.runU [0, 1] [] [(4, sv []), (5, .bool false)] (by kernel_rfl) (by kernel_rfl) ?_
 refine L.done ?_
 show S _ _ _ c61_1 _ _ _ _
 refine S.seq (x := c61_1_0) (y := c61_1_1) (by kernel_rfl) ?_
 refine S.reg (ops := o61_1_0) (js := [0, 1, 2, 3, 4, 5, 6]) (by kernel_rfl) (by kernel_rfl) ?_
 refine L.runU [0, 1] [2, 3, 4, 5, 6] [(6, sv l), (7, sv p)] (by kernel_rfl) (by kernel_rfl) ?_
 refine L.call (f := 97) (by kernel_rfl : lookAt _ _ _ _ = some ((Op.call { callee := (Callee.value (Operand.func 97)), args := #[(Operand.tmp 6), (Operand.tmp 7)], argTypes := #[9, 9] }), some 8)) e97 (by kernel_rfl) (cutp_ok l p _ (by omega) (by omega)) ?_
 rintro _ w102 E103 rfl
 have hE105 := hE0.and0 E103
 have := E103.size
 have := cutpF_len l p
 refine L.runU [3, 4, 5, 6] [] [(9, sv (cutpF l p)), (10, .bool (decide (p.length ≤ l.length ∧ l.take p.length = p))), (4, sv (cutpF l p)), (5, .bool (decide (p.length ≤ l.length ∧ l.take p.length = p)))] (by kernel_rfl) (by kernel_rfl) ?_
 refine L.done ?_
 show S _ _ _ c61_1_1 _ _ _ _
 refine S.ret (by kernel_rfl) ?_
 show Leave _ _ _ _ _ _ _ _
 refine Leave.ret2 (x := .tmp 4) (y := .tmp 5) (sv (cutpF l p)) (.bool (decide (p.length ≤ l.length ∧ l.take p.length = p))) (by kernel_rfl) (.ofT (by kernel_rfl)) (.ofT (by kernel_rfl)) ?_
 refine ⟨_, rfl, hE105, ?_⟩
 rfl
noncomputable def c120 : Code := bodyOf Tryz.f120
noncomputable def c120_0 : Code := kid 0 c120
noncomputable def o120_0 : Array Oper := regOps c120_0
noncomputable def c120_1 : Code := kid 1 c120
noncomputable def c120_1_0 : Code := kid 0 c120_1
noncomputable def o120_1_0 : Array Oper := regOps c120_1_0
noncomputable def c120_1_1 : Code := kid 1 c120_1
set_option maxHeartbeats 400000 in
theorem mk120_ok (x : UInt8) (w : World)  : Calls Tryz.prog 120 #[.int .u8 (x.toNat : Int)] w (RetW [] w fun v _ => v = .bool (plainB x)) := by
 refine calls_of_S (n := 37) (c := c120) Tryz.func120 (by kernel_rfl) (by kernel_rfl) (Nat.le_of_ble_eq_true (by kernel_rfl)) ?_
 have hx := x.toNat_lt
 have hE0 : Eff [] w w := Eff.refl _ _
 refine S.seq (x := c120_0) (y := c120_1) (by kernel_rfl) ?_
 refine S.reg (ops := o120_0) (js := [0]) (by kernel_rfl) (by kernel_rfl) ?_
 refine L.runU [0] [] [(2, .bool false)] (by kernel_rfl) (by kernel_rfl) ?_
 refine L.done ?_
 show S _ _ _ c120_1 _ _ _ _
 refine S.seq (x := c120_1_0) (y := c120_1_1) (by kernel_rfl) ?_
 refine S.reg (ops := o120_1_0) (js := [0, 1, 2, 3, 4, 5, 6, 7, 8, 9, 10, 11, 12, 13, 14, 15, 16, 17, 18, 19, 20, 21, 22, 23, 24, 25, 26, 27, 28, 29, 30, 31, 32, 33, 34]) (by kernel_rfl) (by kernel_rfl) ?_
 refine L.runU [0, 1, 2] [3, 4, 5, 6, 7, 8, 9, 10, 11, 12, 13, 14, 15, 16, 17, 18, 19, 20, 21, 22, 23, 24, 25, 26, 27, 28, 29, 30, 31, 32, 33, 34] [(3, .int .u8 (x.toNat : Int)), (4, .bool (decide (97 ≤ (x.toNat : Int)))), (5, .bool (decide (97 ≤ (x.toNat : Int))))] (by kernel_rfl) (by kernel_rfl) ?_
 refine X.splitP (G := fun σ => L _ _ _ _ _ _ σ _ _) (97 ≤ (x.toNat : Int)) 5 (by kernel_rfl) (fun h101 => ?_) (fun h101 => ?_)
 ·refine L.runU [3, 4, 5, 6] [7, 8, 9, 10, 11, 12, 13, 14, 15, 16, 17, 18, 19, 20, 21, 22, 23, 24, 25, 26, 27, 28, 29, 30, 31, 32, 33, 34] [(6, .int .u8 (x.toNat : Int)), (7, .bool (decide ((x.toNat : Int) ≤ 122))), (8, .bool (decide ((x.toNat : Int) ≤ 122))), (9, .bool (decide ((x.toNat : Int) ≤ 122)))] (by kernel_rfl) (by kernel_rfl) ?_
  refine X.splitP (G := fun σ => L _ _ _ _ _ _ σ _ _) ((x.toNat : Int) ≤ 122) 9 (by kernel_rfl) (fun h102 => ?_) (fun h102 => ?_)
  ·refine L.runU [7, 8, 9, 10, 11, 12, 13, 14, 15, 16, 17, 18, 19, 20, 21, 22, 23, 24, 25, 26, 27, 28, 29, 30, 31, 32, 33, 34] [] [(10, undef), (11, undef), (12, undef), (13, undef), (14, undef), (15, undef), (16, .bool true), (17, .bool true), (18, undef), (19, undef), (20, undef), (21, undef), (22, undef), (23, undef), (24, .bool true), (25, .bool true), (26, undef), (27, undef), (28, .bool true), (29, .bool true), (30, undef), (31, undef), (32, .bool true), (33, .bool true), (34, undef), (35, undef), (36, .bool true), (2, .bool true)] (by kernel_rfl) (by kernel_rfl) ?_
   refine L.done ?_
   show S _ _ _ c120_1_1 _ _ _ _
   refine S.ret (by kernel_rfl) ?_
   show Leave _ _ _ _ _ _ _ _
   refine Leave.ret1 (x := .tmp 2) (.bool true) (by kernel_rfl) (.ofT (by kernel_rfl)) ?_
   refine ⟨_, rfl, hE0, ?_⟩
   exact bool_eq (by rw [Bool.eq_iff_iff]; simp only [plainB, Bool.and_eq_true, Bool.or_eq_true, decide_eq_true_eq, Bool.true_and, Bool.and_true, false_iff, true_iff, Bool.false_eq_true, eq_self_iff_true]; omega)
  ·refine L.runU [7, 8, 9] [10, 11, 12, 13, 14, 15, 16, 17, 18, 19, 20, 21, 22, 23, 24, 25, 26, 27, 28, 29, 30, 31, 32, 33, 34] [(10, .int .u8 (x.toNat : Int)), (11, .bool (decide (65 ≤ (x.toNat : Int)))), (12, .bool (decide (65 ≤ (x.toNat : Int))))] (by kernel_rfl) (by kernel_rfl) ?_
   refine X.splitP (G := fun σ => L _ _ _ _ _ _ σ _ _) (65 ≤ (x.toNat : Int)) 12 (by kernel_rfl) (fun h103 => ?_) (fun h103 => ?_)
   ·refine L.runU [10, 11, 12, 13, 14] [15, 16, 17, 18, 19, 20, 21, 22, 23, 24, 25, 26, 27, 28, 29, 30, 31, 32, 33, 34] [(13, .int .u8 (x.toNat : Int)), (14, .bool (decide ((x.toNat : Int) ≤ 90))), (15, .bool (decide ((x.toNat : Int) ≤ 90))), (16, .bool (decide ((x.toNat : Int) ≤ 90))), (17, .bool (decide ((x.toNat : Int) ≤ 90)))] (by kernel_rfl) (by kernel_rfl) ?_
    refine X.splitP (G := fun σ => L _ _ _ _ _ _ σ _ _) ((x.toNat : Int) ≤ 90) 17 (by kernel_rfl) (fun h104 => ?_) (fun h104 => ?_)
    ·refine L.runU [15, 16, 17, 18, 19, 20, 21, 22, 23, 24, 25, 26, 27, 28, 29, 30, 31, 32, 33, 34] [] [(18, undef), (19, undef), (20, undef), (21, undef), (22, undef), (23, undef), (24, .bool true), (25, .bool true), (26, undef), (27, undef), (28, .bool true), (29, .bool true), (30, undef), (31, undef), (32, .bool true), (33, .bool true), (34, undef), (35, undef), (36, .bool true), (2, .bool true)] (by kernel_rfl) (by kernel_rfl) ?_
     refine L.done ?_
     show S _ _ _ c120_1_1 _ _ _ _
     refine S.ret (by kernel_rfl) ?_
     show Leave _ _ _ _ _ _ _ _
     refine Leave.ret1 (x := .tmp 2) (.bool true) (by kernel_rfl) (.ofT (by kernel_rfl)) ?_
     refine ⟨_, rfl, hE0, ?_⟩
     exact bool_eq (by rw [Bool.eq_iff_iff]; simp only [plainB, Bool.and_eq_true, Bool.or_eq_true, decide_eq_true_eq, Bool.true_and, Bool.and_true, false_iff, true_iff, Bool.false_eq_true, eq_self_iff_true]; omega)
    ·refine L.runU [15, 16, 17] [18, 19, 20, 21, 22, 23, 24, 25, 26, 27, 28, 29, 30, 31, 32, 33, 34] [(18, .int .u8 (x.toNat : Int)), (19, .bool (decide (48 ≤ (x.toNat : Int)))), (20, .bool (decide (48 ≤ (x.toNat : Int))))] (by kernel_rfl) (by kernel_rfl) ?_
     refine X.splitP (G := fun σ => L _ _ _ _ _ _ σ _ _) (48 ≤ (x.toNat : Int)) 20 (by kernel_rfl) (fun h105 => ?_) (fun h105 => ?_)
     ·refine L.runU [18, 19, 20, 21, 22] [23, 24, 25, 26, 27, 28, 29, 30, 31, 32, 33, 34] [(21, .int .u8 (x.toNat : Int)), (22, .bool (decide ((x.toNat : Int) ≤ 57))), (23, .bool (decide ((x.toNat : Int) ≤ 57))), (24, .bool (decide ((x.toNat : Int) ≤ 57))), (25, .bool (decide ((x.toNat : Int) ≤ 57)))] (by kernel_rfl) (by kernel_rfl) ?_
      refine X.splitP (G := fun σ => L _ _ _ _ _ _ σ _ _) ((x.toNat : Int) ≤ 57) 25 (by kernel_rfl) (fun h106 => ?_) (fun h106 => ?_)
      ·refine L.runU [23, 24, 25, 26, 27, 28, 29, 30, 31, 32, 33, 34] [] [(26, undef), (27, undef), (28, .bool true), (29, .bool true), (30, undef), (31, undef), (32, .bool true), (33, .bool true), (34, undef), (35, undef), (36, .bool true), (2, .bool true)] (by kernel_rfl) (by kernel_rfl) ?_
       refine L.done ?_
       show S _ _ _ c120_1_1 _ _ _ _
       refine S.ret (by kernel_rfl) ?_
       show Leave _ _ _ _ _ _ _ _
       refine Leave.ret1 (x := .tmp 2) (.bool true) (by kernel_rfl) (.ofT (by kernel_rfl)) ?_
       refine ⟨_, rfl, hE0, ?_⟩
       exact bool_eq (by rw [Bool.eq_iff_iff]; simp only [plainB, Bool.and_eq_true, Bool.or_eq_true, decide_eq_true_eq, Bool.true_and, Bool.and_true, false_iff, true_iff, Bool.false_eq_true, eq_self_iff_true]; omega)
      ·refine L.runU [23, 24, 25, 26] [27, 28, 29, 30, 31, 32, 33, 34] [(26, .int .u8 (x.toNat : Int)), (27, .bool (decide ((x.toNat : Int) = 45))), (28, .bool (decide ((x.toNat : Int) = 45))), (29, .bool (decide ((x.toNat : Int) = 45)))] (by kernel_rfl) (by kernel_rfl) ?_
       refine X.splitP (G := fun σ => L _ _ _ _ _ _ σ _ _) ((x.toNat : Int) = 45) 29 (by kernel_rfl) (fun h107 => ?_) (fun h107 => ?_)
       ·refine L.runU [27, 28, 29, 30, 31, 32, 33, 34] [] [(30, undef), (31, undef), (32, .bool true), (33, .bool true), (34, undef), (35, undef), (36, .bool true), (2, .bool true)] (by kernel_rfl) (by kernel_rfl) ?_
        refine L.done ?_
        show S _ _ _ c120_1_1 _ _ _ _
        refine S.ret (by kernel_rfl) ?_
        show Leave _ _ _ _ _ _ _ _
        refine Leave.ret1 (x := .tmp 2) (.bool true) (by kernel_rfl) (.ofT (by kernel_rfl)) ?_
        refine ⟨_, rfl, hE0, ?_⟩
        exact bool_eq (by rw [Bool.eq_iff_iff]; simp only [plainB, Bool.and_eq_true, Bool.or_eq_true, decide_eq_true_eq, Bool.true_and, Bool.and_true, false_iff, true_iff, Bool.false_eq_true, eq_self_iff_true]; omega)
       ·refine L.runU [27, 28, 29, 30] [31, 32, 33, 34] [(30, .int .u8 (x.toNat : Int)), (31, .bool (decide ((x.toNat : Int) = 46))), (32, .bool (decide ((x.toNat : Int) = 46))), (33, .bool (decide ((x.toNat : Int) = 46)))] (by kernel_rfl) (by kernel_rfl) ?_
        refine X.splitP (G := fun σ => L _ _ _ _ _ _ σ _ _) ((x.toNat : Int) = 46) 33 (by kernel_rfl) (fun h108 => ?_) (fun h108 => ?_)
        ·refine L.runU [31, 32, 33, 34] [] [(34, undef), (35, undef), (36, .bool true), (2, .bool true)] (by kernel_rfl) (by kernel_rfl) ?_
         refine L.done ?_
         show S _ _ _ c120_1_1 _ _ _ _
         refine S.ret (by kernel_rfl) ?_
         show Leave _ _ _ _ _ _ _ _
         refine Leave.ret1 (x := .tmp 2) (.bool true) (by kernel_rfl) (.ofT (by kernel_rfl)) ?_
         refine ⟨_, rfl, hE0, ?_⟩
         exact bool_eq (by rw [Bool.eq_iff_iff]; simp only [plainB, Bool.and_eq_true, Bool.or_eq_true, decide_eq_true_eq, Bool.true_and, Bool.and_true, false_iff, true_iff, Bool.false_eq_true, eq_self_iff_true]; omega)
        ·refine L.runU [31, 32, 33, 34] [] [(34, .int .u8 (x.toNat : Int)), (35, .bool (decide ((x.toNat : Int) = 95))), (36, .bool (decide ((x.toNat : Int) = 95))), (2, .bool (decide ((x.toNat : Int) = 95)))] (by kernel_rfl) (by kernel_rfl) ?_
         refine L.done ?_
         show S _ _ _ c120_1_1 _ _ _ _
         refine S.ret (by kernel_rfl) ?_
         show Leave _ _ _ _ _ _ _ _
         refine Leave.ret1 (x := .tmp 2) (.bool (decide ((x.toNat : Int) = 95))) (by kernel_rfl) (.ofT (by kernel_rfl)) ?_
         refine ⟨_, rfl, hE0, ?_⟩
         exact bool_eq (by rw [Bool.eq_iff_iff]; simp only [plainB, Bool.and_eq_true, Bool.or_eq_true, decide_eq_true_eq, Bool.true_and, Bool.and_true, false_iff, true_iff, Bool.false_eq_true, eq_self_iff_true]; omega)
     ·refine L.runU [18, 19, 20, 21, 22, 23, 24, 25, 26] [27, 28, 29, 30, 31, 32, 33, 34] [(21, undef), (22, undef), (23, .bool false), (24, .bool false), (25, .bool false), (26, .int .u8 (x.toNat : Int)), (27, .bool (decide ((x.toNat : Int) = 45))), (28, .bool (decide ((x.toNat : Int) = 45))), (29, .bool (decide ((x.toNat : Int) = 45)))] (by kernel_rfl) (by kernel_rfl) ?_
      refine X.splitP (G := fun σ => L _ _ _ _ _ _ σ _ _) ((x.toNat : Int) = 45) 29 (by kernel_rfl) (fun h109 => ?_) (fun h109 => ?_)
      ·refine L.runU [27, 28, 29, 30, 31, 32, 33, 34] [] [(30, undef), (31, undef), (32, .bool true), (33, .bool true), (34, undef), (35, undef), (36, .bool true), (2, .bool true)] (by kernel_rfl) (by kernel_rfl) ?_
       refine L.done ?_
       show S _ _ _ c120_1_1 _ _ _ _
       refine S.ret (by kernel_rfl) ?_
       show Leave _ _ _ _ _ _ _ _
       refine Leave.ret1 (x := .tmp 2) (.bool true) (by kernel_rfl) (.ofT (by kernel_rfl)) ?_
       refine ⟨_, rfl, hE0, ?_⟩
       exact bool_eq (by rw [Bool.eq_iff_iff]; simp only [plainB, Bool.and_eq_true, Bool.or_eq_true, decide_eq_true_eq, Bool.true_and, Bool.and_true, false_iff, true_iff, Bool.false_eq_true, eq_self_iff_true]; omega)
      ·refine L.runU [27, 28, 29, 30] [31, 32, 33, 34] [(30, .int .u8 (x.toNat : Int)), (31, .bool (decide ((x.toNat : Int) = 46))), (32, .bool (decide ((x.toNat : Int) = 46))), (33, .bool (decide ((x.toNat : Int) = 46)))] (by kernel_rfl) (by kernel_rfl) ?_
       refine X.splitP (G := fun σ => L _ _ _ _ _ _ σ _ _) ((x.toNat : Int) = 46) 33 (by kernel_rfl) (fun h110 => ?_) (fun h110 => ?_)
       ·refine L.runU [31, 32, 33, 34] [] [(34, undef), (35, undef), (36, .bool true), (2, .bool true)] (by kernel_rfl) (by kernel_rfl) ?_
        refine L.done ?_
        show S _ _ _ c120_1_1 _ _ _ _
        refine S.ret (by kernel_rfl) ?_
        show Leave _ _ _ _ _ _ _ _
        refine Leave.ret1 (x := .tmp 2) (.bool true) (by kernel_rfl) (.ofT (by kernel_rfl)) ?_
        refine ⟨_, rfl, hE0, ?_⟩
        exact bool_eq (by rw [Bool.eq_iff_iff]; simp only [plainB, Bool.and_eq_true, Bool.or_eq_true, decide_eq_true_eq, Bool.true_and, Bool.and_true, false_iff, true_iff, Bool.false_eq_true, eq_self_iff_true]; omega)
       ·refine L.runU [31, 32, 33, 34] [] [(34, .int .u8 (x.toNat : Int)), (35, .bool (decide ((x.toNat : Int) = 95))), (36, .bool (decide ((x.toNat : Int) = 95))), (2, .bool (decide ((x.toNat : Int) = 95)))] (by kernel_rfl) (by kernel_rfl) ?_
        refine L.done ?_
        show S _ _ _ c120_1_1 _ _ _ _
        refine S.ret (by kernel_rfl) ?_
        show Leave _ _ _ _ _ _ _ _
        refine Leave.ret1 (x := .tmp 2) (.bool (decide ((x.toNat : Int) = 95))) (by kernel_rfl) (.ofT (by kernel_rfl)) ?_
        refine ⟨_, rfl, hE0, ?_⟩
        exact bool_eq (by rw [Bool.eq_iff_iff]; simp only [plainB, Bool.and_eq_true, Bool.or_eq_true, decide_eq_true_eq, Bool.true_and, Bool.and_true, false_iff, true_iff, Bool.false_eq_true, eq_self_iff_true]; omega)
   ·refine L.runU [10, 11, 12, 13, 14, 15, 16, 17] [18, 19, 20, 21, 22, 23, 24, 25, 26, 27, 28, 29, 30, 31, 32, 33, 34] [(13, undef), (14, undef), (15, .bool false), (16, .bool false), (17, .bool false), (18, .int .u8 (x.toNat : Int)), (19, .bool (decide (48 ≤ (x.toNat : Int)))), (20, .bool (decide (48 ≤ (x.toNat : Int))))] (by kernel_rfl) (by kernel_rfl) ?_
    refine X.splitP (G := fun σ => L _ _ _ _ _ _ σ _ _) (48 ≤ (x.toNat : Int)) 20 (by kernel_rfl) (fun h111 => ?_) (fun h111 => ?_)
    ·refine L.runU [18, 19, 20, 21, 22] [23, 24, 25, 26, 27, 28, 29, 30, 31, 32, 33, 34] [(21, .int .u8 (x.toNat : Int)), (22, .bool (decide ((x.toNat : Int) ≤ 57))), (23, .bool (decide ((x.toNat : Int) ≤ 57))), (24, .bool (decide ((x.toNat : Int) ≤ 57))), (25, .bool (decide ((x.toNat : Int) ≤ 57)))] (by kernel_rfl) (by kernel_rfl) ?_
     refine X.splitP (G := fun σ => L _ _ _ _ _ _ σ _ _) ((x.toNat : Int) ≤ 57) 25 (by kernel_rfl) (fun h112 => ?_) (fun h112 => ?_)
     ·refine L.runU [23, 24, 25, 26, 27, 28, 29, 30, 31, 32, 33, 34] [] [(26, undef), (27, undef), (28, .bool true), (29, .bool true), (30, undef), (31, undef), (32, .bool true), (33, .bool true), (34, undef), (35, undef), (36, .bool true), (2, .bool true)] (by kernel_rfl) (by kernel_rfl) ?_
      refine L.done ?_
      show S _ _ _ c120_1_1 _ _ _ _
      refine S.ret (by kernel_rfl) ?_
      show Leave _ _ _ _ _ _ _ _
      refine Leave.ret1 (x := .tmp 2) (.bool true) (by kernel_rfl) (.ofT (by kernel_rfl)) ?_
      refine ⟨_, rfl, hE0, ?_⟩
      exact bool_eq (by rw [Bool.eq_iff_iff]; simp only [plainB, Bool.and_eq_true, Bool.or_eq_true, decide_eq_true_eq, Bool.true_and, Bool.and_true, false_iff, true_iff, Bool.false_eq_true, eq_self_iff_true]; omega)
     ·refine L.runU [23, 24, 25, 26] [27, 28, 29, 30, 31, 32, 33, 34] [(26, .int .u8 (x.toNat : Int)), (27, .bool (decide ((x.toNat : Int) = 45))), (28, .bool (decide ((x.toNat : Int) = 45))), (29, .bool (decide ((x.toNat : Int) = 45)))] (by kernel_rfl) (by kernel_rfl) ?_
      refine X.splitP (G := fun σ => L _ _ _ _ _ _ σ _ _) ((x.toNat : Int) = 45) 29 (by kernel_rfl) (fun h113 => ?_) (fun h113 => ?_)
      ·refine L.runU [27, 28, 29, 30, 31, 32, 33, 34] [] [(30, undef), (31, undef), (32, .bool true), (33, .bool true), (34, undef), (35, undef), (36, .bool true), (2, .bool true)] (by kernel_rfl) (by kernel_rfl) ?_
       refine L.done ?_
       show S _ _ _ c120_1_1 _ _ _ _
       refine S.ret (by kernel_rfl) ?_
       show Leave _ _ _ _ _ _ _ _
       refine Leave.ret1 (x := .tmp 2) (.bool true) (by kernel_rfl) (.ofT (by kernel_rfl)) ?_
       refine ⟨_, rfl, hE0, ?_⟩
       exact bool_eq (by rw [Bool.eq_iff_iff]; simp only [plainB, Bool.and_eq_true, Bool.or_eq_true, decide_eq_true_eq, Bool.true_and, Bool.and_true, false_iff, true_iff, Bool.false_eq_true, eq_self_iff_true]; omega)
      ·refine L.runU [27, 28, 29, 30] [31, 32, 33, 34] [(30, .int .u8 (x.toNat : Int)), (31, .bool (decide ((x.toNat : Int) = 46))), (32, .bool (decide ((x.toNat : Int) = 46))), (33, .bool (decide ((x.toNat : Int) = 46)))] (by kernel_rfl) (by kernel_rfl) ?_
       refine X.splitP (G := fun σ => L _ _ _ _ _ _ σ _ _) ((x.toNat : Int) = 46) 33 (by kernel_rfl) (fun h114 => ?_) (fun h114 => ?_)
       ·refine L.runU [31, 32, 33, 34] [] [(34, undef), (35, undef), (36, .bool true), (2, .bool true)] (by kernel_rfl) (by kernel_rfl) ?_
        refine L.done ?_
        show S _ _ _ c120_1_1 _ _ _ _
        refine S.ret (by kernel_rfl) ?_
        show Leave _ _ _ _ _ _ _ _
        refine Leave.ret1 (x := .tmp 2) (.bool true) (by kernel_rfl) (.ofT (by kernel_rfl)) ?_
        refine ⟨_, rfl, hE0, ?_⟩
        exact bool_eq (by rw [Bool.eq_iff_iff]; simp only [plainB, Bool.and_eq_true, Bool.or_eq_true, decide_eq_true_eq, Bool.true_and, Bool.and_true, false_iff, true_iff, Bool.false_eq_true, eq_self_iff_true]; omega)
       ·refine L.runU [31, 32, 33, 34] [] [(34, .int .u8 (x.toNat : Int)), (35, .bool (decide ((x.toNat : Int) = 95))), (36, .bool (decide ((x.toNat : Int) = 95))), (2, .bool (decide ((x.toNat : Int) = 95)))] (by kernel_rfl) (by kernel_rfl) ?_
        refine L.done ?_
        show S _ _ _ c120_1_1 _ _ _ _
        refine S.ret (by kernel_rfl) ?_
        show Leave _ _ _ _ _ _ _ _
        refine Leave.ret1 (x := .tmp 2) (.bool (decide ((x.toNat : Int) = 95))) (by kernel_rfl) (.ofT (by kernel_rfl)) ?_
        refine ⟨_, rfl, hE0, ?_⟩
        exact bool_eq (by rw [Bool.eq_iff_iff]; simp only [plainB, Bool.and_eq_true, Bool.or_eq_true, decide_eq_true_eq, Bool.true_and, Bool.and_true, false_iff, true_iff, Bool.false_eq_true, eq_self_iff_true]; omega)
    ·refine L.runU [18, 19, 20, 21, 22, 23, 24, 25, 26] [27, 28, 29, 30, 31, 32, 33, 34] [(21, undef), (22, undef), (23, .bool false), (24, .bool false), (25, .bool false), (26, .int .u8 (x.toNat : Int)), (27, .bool (decide ((x.toNat : Int) = 45))), (28, .bool (decide ((x.toNat : Int) = 45))), (29, .bool (decide ((x.toNat : Int) = 45)))] (by kernel_rfl) (by kernel_rfl) ?_
     refine X.splitP (G := fun σ => L _ _ _ _ _ _ σ _ _) ((x.toNat : Int) = 45) 29 (by kernel_rfl) (fun h115 => ?_) (fun h115 => ?_)
     ·refine L.runU [27, 28, 29, 30, 31, 32, 33, 34] [] [(30, undef), (31, undef), (32, .bool true), (33, .bool true), (34, undef), (35, undef), (36, .bool true), (2, .bool true)] (by kernel_rfl) (by kernel_rfl) ?_
      refine L.done ?_
      show S _ _ _ c120_1_1 _ _ _ _
      refine S.ret (by kernel_rfl) ?_
      show Leave _ _ _ _ _ _ _ _
      refine Leave.ret1 (x := .tmp 2) (.bool true) (by kernel_rfl) (.ofT (by kernel_rfl)) ?_
      refine ⟨_, rfl, hE0, ?_⟩
      exact bool_eq (by rw [Bool.eq_iff_iff]; simp only [plainB, Bool.and_eq_true, Bool.or_eq_true, decide_eq_true_eq, Bool.true_and, Bool.and_true, false_iff, true_iff, Bool.false_eq_true, eq_self_iff_true]; omega)
     ·refine L.runU [27, 28, 29, 30] [31, 32, 33, 34] [(30, .int .u8 (x.toNat : Int)), (31, .bool (decide ((x.toNat : Int) = 46))), (32, .bool (decide ((x.toNat : Int) = 46))), (33, .bool (decide ((x.toNat : Int) = 46)))] (by kernel_rfl) (by kernel_rfl) ?_
      refine X.splitP (G := fun σ => L _ _ _ _ _ _ σ _ _) ((x.toNat : Int) = 46) 33 (by kernel_rfl) (fun h116 => ?_) (fun h116 => ?_)
      ·refine L.runU [31, 32, 33, 34] [] [(34, undef), (35, undef), (36, .bool true), (2, .bool true)] (by kernel_rfl) (by kernel_rfl) ?_
       refine L.done ?_
       show S _ _ _ c120_1_1 _ _ _ _
       refine S.ret (by kernel_rfl) ?_
       show Leave _ _ _ _ _ _ _ _
       refine Leave.ret1 (x := .tmp 2) (.bool true) (by kernel_rfl) (.ofT (by kernel_rfl)) ?_
       refine ⟨_, rfl, hE0, ?_⟩
       exact bool_eq (by rw [Bool.eq_iff_iff]; simp only [plainB, Bool.and_eq_true, Bool.or_eq_true, decide_eq_true_eq, Bool.true_and, Bool.and_true, false_iff, true_iff, Bool.false_eq_true, eq_self_iff_true]; omega)
      ·refine L.runU [31, 32, 33, 34] [] [(34, .int .u8 (x.toNat : Int)), (35, .bool (decide ((x.toNat : Int) = 95))), (36, .bool (decide ((x.toNat : Int) = 95))), (2, .bool (decide ((x.toNat : Int) = 95)))] (by kernel_rfl) (by kernel_rfl) ?_
       refine L.done ?_
       show S _ _ _ c120_1_1 _ _ _ _
       refine S.ret (by kernel_rfl) ?_
       show Leave _ _ _ _ _ _ _ _
       refine Leave.ret1 (x := .tmp 2) (.bool (decide ((x.toNat : Int) = 95))) (by kernel_rfl) (.ofT (by kernel_rfl)) ?_
       refine ⟨_, rfl, hE0, ?_⟩
       exact bool_eq (by rw [Bool.eq_iff_iff]; simp only [plainB, Bool.and_eq_true, Bool.or_eq_true, decide_eq_true_eq, Bool.true_and, Bool.and_true, false_iff, true_iff, Bool.false_eq_true, eq_self_iff_true]; omega)
 ·refine L.runU [3, 4, 5, 6, 7, 8, 9] [10, 11, 12, 13, 14, 15, 16, 17, 18, 19, 20, 21, 22, 23, 24, 25, 26, 27, 28, 29, 30, 31, 32, 33, 34] [(6, undef), (7, undef), (8, .bool false), (9, .bool false), (10, .int .u8 (x.toNat : Int)), (11, .bool (decide (65 ≤ (x.toNat : Int)))), (12, .bool (decide (65 ≤ (x.toNat : Int))))] (by kernel_rfl) (by kernel_rfl) ?_
  refine X.splitP (G := fun σ => L _ _ _ _ _ _ σ _ _) (65 ≤ (x.toNat : Int)) 12 (by kernel_rfl) (fun h117 => ?_) (fun h117 => ?_)
  ·refine L.runU [10, 11, 12, 13, 14] [15, 16, 17, 18, 19, 20, 21, 22, 23, 24, 25, 26, 27, 28, 29, 30, 31, 32, 33, 34] [(13, .int .u8 (x.toNat : Int)), (14, .bool (decide ((x.toNat : Int) ≤ 90))), (15, .bool (decide ((x.toNat : Int) ≤ 90))), (16, .bool (decide ((x.toNat : Int) ≤ 90))), (17, .bool (decide ((x.toNat : Int) ≤ 90)))] (by kernel_rfl) (by kernel_rfl) ?_
   refine X.splitP (G := fun σ => L _ _ _ _ _ _ σ _ _) ((x.toNat : Int) ≤ 90) 17 (by kernel_rfl) (fun h118 => ?_) (fun h118 => ?_)
   ·refine L.runU [15, 16, 17, 18, 19, 20, 21, 22, 23, 24, 25, 26, 27, 28, 29, 30, 31, 32, 33, 34] [] [(18, undef), (19, undef), (20, undef), (21, undef), (22, undef), (23, undef), (24, .bool true), (25, .bool true), (26, undef), (27, undef), (28, .bool true), (29, .bool true), (30, undef), (31, undef), (32, .bool true), (33, .bool true), (34, undef), (35, undef), (36, .bool true), (2, .bool true)] (by kernel_rfl) (by kernel_rfl) ?_
    refine L.done ?_
    show S _ _ _ c120_1_1 _ _ _ _
    refine S.ret (by kernel_rfl) ?_
    show Leave _ _ _ _ _ _ _ _
    refine Leave.ret1 (x := .tmp 2) (.bool true) (by kernel_rfl) (.ofT (by kernel_rfl)) ?_
    refine ⟨_, rfl, hE0, ?_⟩
    exact bool_eq (by rw [Bool.eq_iff_iff]; simp only [plainB, Bool.and_eq_true, Bool.or_eq_true, decide_eq_true_eq, Bool.true_and, Bool.and_true, false_iff, true_iff, Bool.false_eq_true, eq_self_iff_true]; omega)
   ·refine L.runU [15, 16, 17] [18, 19, 20, 21, 22, 23, 24, 25, 26, 27, 28, 29, 30, 31, 32, 33, 34] [(18, .int .u8 (x.toNat : Int)), (19, .bool (decide (48 ≤ (x.toNat : Int)))), (20, .bool (decide (48 ≤ (x.toNat : Int))))] (by kernel_rfl) (by kernel_rfl) ?_
    refine X.splitP (G := fun σ => L _ _ _ _ _ _ σ _ _) (48 ≤ (x.toNat : Int)) 20 (by kernel_rfl) (fun h119 => ?_) (fun h119 => ?_)
    ·refine L.runU [18, 19, 20, 21, 22] [23, 24, 25, 26, 27, 28, 29, 30, 31, 32, 33, 34] [(21, .int .u8 (x.toNat : Int)), (22, .bool (decide ((x.toNat : Int) ≤ 57))), (23, .bool (decide ((x.toNat : Int) ≤ 57))), (24, .bool (decide ((x.toNat : Int) ≤ 57))), (25, .bool (decide ((x.toNat : Int) ≤ 57)))] (by kernel_rfl) (by kernel_rfl) ?_
     refine X.splitP (G := fun σ => L _ _ _ _ _ _ σ _ _) ((x.toNat : Int) ≤ 57) 25 (by kernel_rfl) (fun h120 => ?_) (fun h120 => ?_)
     ·refine L.runU [23, 24, 25, 26, 27, 28, 29, 30, 31, 32, 33, 34] [] [(26, undef), (27, undef), (28, .bool true), (29, .bool true), (30, undef), (31, undef), (32, .bool true), (33, .bool true), (34, undef), (35, undef), (36, .bool true), (2, .bool true)] (by kernel_rfl) (by kernel_rfl) ?_
      refine L.done ?_
      show S _ _ _ c120_1_1 _ _ _ _
      refine S.ret (by kernel_rfl) ?_
      show Leave _ _ _ _ _ _ _ _
      refine Leave.ret1 (x := .tmp 2) (.bool true) (by kernel_rfl) (.ofT (by kernel_rfl)) ?_
      refine ⟨_, rfl, hE0, ?_⟩
      exact bool_eq (by rw [Bool.eq_iff_iff]; simp only [plainB, Bool.and_eq_true, Bool.or_eq_true, decide_eq_true_eq, Bool.true_and, Bool.and_true, false_iff, true_iff, Bool.false_eq_true, eq_self_iff_true]; omega)
     ·refine L.runU [23, 24, 25, 26] [27, 28, 29, 30, 31, 32, 33, 34] [(26, .int .u8 (x.toNat : Int)), (27, .bool (decide ((x.toNat : Int) = 45))), (28, .bool (decide ((x.toNat : Int) = 45))), (29, .bool (decide ((x.toNat : Int) = 45)))] (by kernel_rfl) (by kernel_rfl) ?_
      refine X.splitP (G := fun σ => L _ _ _ _ _ _ σ _ _) ((x.toNat : Int) = 45) 29 (by kernel_rfl) (fun h121 => ?_) (fun h121 => ?_)
      ·refine L.runU [27, 28, 29, 30, 31, 32, 33, 34] [] [(30, undef), (31, undef), (32, .bool true), (33, .bool true), (34, undef), (35, undef), (36, .bool true), (2, .bool true)] (by kernel_rfl) (by kernel_rfl) ?_
       refine L.done ?_
       show S _ _ _ c120_1_1 _ _ _ _
       refine S.ret (by kernel_rfl) ?_
       show Leave _ _ _ _ _ _ _ _
       refine Leave.ret1 (x := .tmp 2) (.bool true) (by kernel_rfl) (.ofT (by kernel_rfl)) ?_
       refine ⟨_, rfl, hE0, ?_⟩
       exact bool_eq (by rw [Bool.eq_iff_iff]; simp only [plainB, Bool.and_eq_true, Bool.or_eq_true, decide_eq_true_eq, Bool.true_and, Bool.and_true, false_iff, true_iff, Bool.false_eq_true, eq_self_iff_true]; omega)
      ·refine L.runU [27, 28, 29, 30] [31, 32, 33, 34] [(30, .int .u8 (x.toNat : Int)), (31, .bool (decide ((x.toNat : Int) = 46))), (32, .bool (decide ((x.toNat : Int) = 46))), (33, .bool (decide ((x.toNat : Int) = 46)))] (by kernel_rfl) (by kernel_rfl) ?_
       refine X.splitP (G := fun σ => L _ _ _ _ _ _ σ _ _) ((x.toNat : Int) = 46) 33 (by kernel_rfl) (fun h122 => ?_) (fun h122 => ?_)
       ·refine L.runU [31, 32, 33, 34] [] [(34, undef), (35, undef), (36, .bool true), (2, .bool true)] (by kernel_rfl) (by kernel_rfl) ?_
        refine L.done ?_
        show S _ _ _ c120_1_1 _ _ _ _
        refine S.ret (by kernel_rfl) ?_
        show Leave _ _ _ _ _ _ _ _
        refine Leave.ret1 (x := .tmp 2) (.bool true) (by kernel_rfl) (.ofT (by kernel_rfl)) ?_
        refine ⟨_, rfl, hE0, ?_⟩
        exact bool_eq (by rw [Bool.eq_iff_iff]; simp only [plainB, Bool.and_eq_true, Bool.or_eq_true, decide_eq_true_eq, Bool.true_and, Bool.and_true, false_iff, true_iff, Bool.false_eq_true, eq_self_iff_true]; omega)
       ·refine L.runU [31, 32, 33, 34] [] [(34, .int .u8 (x.toNat : Int)), (35, .bool (decide ((x.toNat : Int) = 95))), (36, .bool (decide ((x.toNat : Int) = 95))), (2, .bool (decide ((x.toNat : Int) = 95)))] (by kernel_rfl) (by kernel_rfl) ?_
        refine L.done ?_
        show S _ _ _ c120_1_1 _ _ _ _
        refine S.ret (by kernel_rfl) ?_
        show Leave _ _ _ _ _ _ _ _
        refine Leave.ret1 (x := .tmp 2) (.bool (decide ((x.toNat : Int) = 95))) (by kernel_rfl) (.ofT (by kernel_rfl)) ?_
        refine ⟨_, rfl, hE0, ?_⟩
        exact bool_eq (by rw [Bool.eq_iff_iff]; simp only [plainB, Bool.and_eq_true, Bool.or_eq_true, decide_eq_true_eq, Bool.true_and, Bool.and_true, false_iff, true_iff, Bool.false_eq_true, eq_self_iff_true]; omega)
    ·refine L.runU [18, 19, 20, 21, 22, 23, 24, 25, 26] [27, 28, 29, 30, 31, 32, 33, 34] [(21, undef), (22, undef), (23, .bool false), (24, .bool false), (25, .bool false), (26, .int .u8 (x.toNat : Int)), (27, .bool (decide ((x.toNat : Int) = 45))), (28, .bool (decide ((x.toNat : Int) = 45))), (29, .bool (decide ((x.toNat : Int) = 45)))] (by kernel_rfl) (by kernel_rfl) ?_
     refine X.splitP (G := fun σ => L _ _ _ _ _ _ σ _ _) ((x.toNat : Int) = 45) 29 (by kernel_rfl) (fun h123 => ?_) (fun h123 => ?_)
     ·refine L.runU [27, 28, 29, 30, 31, 32, 33, 34] [] [(30, undef), (31, undef), (32, .bool true), (33, .bool true), (34, undef), (35, undef), (36, .bool true), (2, .bool true)] (by kernel_rfl) (by kernel_rfl) ?_
      refine L.done ?_
      show S _ _ _ c120_1_1 _ _ _ _
      refine S.ret (by kernel_rfl) ?_
      show Leave _ _ _ _ _ _ _ _
      refine Leave.ret1 (x := .tmp 2) (.bool true) (by kernel_rfl) (.ofT (by kernel_rfl)) ?_
      refine ⟨_, rfl, hE0, ?_⟩
      exact bool_eq (by rw [Bool.eq_iff_iff]; simp only [plainB, Bool.and_eq_true, Bool.or_eq_true, decide_eq_true_eq, Bool.true_and, Bool.and_true, false_iff, true_iff, Bool.false_eq_true, eq_self_iff_true]; omega)
     ·refine L.runU [27, 28, 29, 30] [31, 32, 33, 34] [(30, .int .u8 (x.toNat : Int)), (31, .bool (decide ((x.toNat : Int) = 46))), (32, .bool (decide ((x.toNat : Int) = 46))), (33, .bool (decide ((x.toNat : Int) = 46)))] (by kernel_rfl) (by kernel_rfl) ?_
      refine X.splitP (G := fun σ => L _ _ _ _ _ _ σ _ _) ((x.toNat : Int) = 46) 33 (by kernel_rfl) (fun h124 => ?_) (fun h124 => ?_)
      ·refine L.runU [31, 32, 33, 34] [] [(34, undef), (35, undef), (36, .bool true), (2, .bool true)] (by kernel_rfl) (by kernel_rfl) ?_
       refine L.done ?_
       show S _ _ _ c120_1_1 _ _ _ _
       refine S.ret (by kernel_rfl) ?_
       show Leave _ _ _ _ _ _ _ _
       refine Leave.ret1 (x := .tmp 2) (.bool true) (by kernel_rfl) (.ofT (by kernel_rfl)) ?_
       refine ⟨_, rfl, hE0, ?_⟩
       exact bool_eq (by rw [Bool.eq_iff_iff]; simp only [plainB, Bool.and_eq_true, Bool.or_eq_true, decide_eq_true_eq, Bool.true_and, Bool.and_true, false_iff, true_iff, Bool.false_eq_true, eq_self_iff_true]; omega)
      ·refine L.runU [31, 32, 33, 34] [] [(34, .int .u8 (x.toNat : Int)), (35, .bool (decide ((x.toNat : Int) = 95))), (36, .bool (decide ((x.toNat : Int) = 95))), (2, .bool (decide ((x.toNat : Int) = 95)))] (by kernel_rfl) (by kernel_rfl) ?_
       refine L.done ?_
       show S _ _ _ c120_1_1 _ _ _ _
       refine S.ret (by kernel_rfl) ?_
       show Leave _ _ _ _ _ _ _ _
       refine Leave.ret1 (x := .tmp 2) (.bool (decide ((x.toNat : Int) = 95))) (by kernel_rfl) (.ofT (by kernel_rfl)) ?_
       refine ⟨_, rfl, hE0, ?_⟩
       exact bool_eq (by rw [Bool.eq_iff_iff]; simp only [plainB, Bool.and_eq_true, Bool.or_eq_true, decide_eq_true_eq, Bool.true_and, Bool.and_true, false_iff, true_iff, Bool.false_eq_true, eq_self_iff_true]; omega)
  ·refine L.runU [10, 11, 12, 13, 14, 15, 16, 17] [18, 19, 20, 21, 22, 23, 24, 25, 26, 27, 28, 29, 30, 31, 32, 33, 34] [(13, undef), (14, undef), (15, .bool false), (16, .bool false), (17, .bool false), (18, .int .u8 (x.toNat : Int)), (19, .bool (decide (48 ≤ (x.toNat : Int)))), (20, .bool (decide (48 ≤ (x.toNat : Int))))] (by kernel_rfl) (by kernel_rfl) ?_
   refine X.splitP (G := fun σ => L _ _ _ _ _ _ σ _ _) (48 ≤ (x.toNat : Int)) 20 (by kernel_rfl) (fun h125 => ?_) (fun h125 => ?_)
   ·refine L.runU [18, 19, 20, 21, 22] [23, 24, 25, 26, 27, 28, 29, 30, 31, 32, 33, 34] [(21, .int .u8 (x.toNat : Int)), (22, .bool (decide ((x.toNat : Int) ≤ 57))), (23, .bool (decide ((x.toNat : Int) ≤ 57))), (24, .bool (decide ((x.toNat : Int) ≤ 57))), (25, .bool (decide ((x.toNat : Int) ≤ 57)))] (by kernel_rfl) (by kernel_rfl) ?_
    refine X.splitP (G := fun σ => L _ _ _ _ _ _ σ _ _) ((x.toNat : Int) ≤ 57) 25 (by kernel_rfl) (fun h126 => ?_) (fun h126 => ?_)
    ·refine L.runU [23, 24, 25, 26, 27, 28, 29, 30, 31, 32, 33, 34] [] [(26, undef), (27, undef), (28, .bool true), (29, .bool true), (30, undef), (31, undef), (32, .bool true), (33, .bool true), (34, undef), (35, undef), (36, .bool true), (2, .bool true)] (by kernel_rfl) (by kernel_rfl) ?_
     refine L.done ?_
     show S _ _ _ c120_1_1 _ _ _ _
     refine S.ret (by kernel_rfl) ?_
     show Leave _ _ _ _ _ _ _ _
     refine Leave.ret1 (x := .tmp 2) (.bool true) (by kernel_rfl) (.ofT (by kernel_rfl)) ?_
     refine ⟨_, rfl, hE0, ?_⟩
     exact bool_eq (by rw [Bool.eq_iff_iff]; simp only [plainB, Bool.and_eq_true, Bool.or_eq_true, decide_eq_true_eq, Bool.true_and, Bool.and_true, false_iff, true_iff, Bool.false_eq_true, eq_self_iff_true]; omega)
    ·refine L.runU [23, 24, 25, 26] [27, 28, 29, 30, 31, 32, 33, 34] [(26, .int .u8 (x.toNat : Int)), (27, .bool (decide ((x.toNat : Int) = 45))), (28, .bool (decide ((x.toNat : Int) = 45))), (29, .bool (decide ((x.toNat : Int) = 45)))] (by kernel_rfl) (by kernel_rfl) ?_
     refine X.splitP (G := fun σ => L _ _ _ _ _ _ σ _ _) ((x.toNat : Int) = 45) 29 (by kernel_rfl) (fun h127 => ?_) (fun h127 => ?_)
     ·refine L.runU [27, 28, 29, 30, 31, 32, 33, 34] [] [(30, undef), (31, undef), (32, .bool true), (33, .bool true), (34, undef), (35, undef), (36, .bool true), (2, .bool true)] (by kernel_rfl) (by kernel_rfl) ?_
      refine L.done ?_
      show S _ _ _ c120_1_1 _ _ _ _
      refine S.ret (by kernel_rfl) ?_
      show Leave _ _ _ _ _ _ _ _
      refine Leave.ret1 (x := .tmp 2) (.bool true) (by kernel_rfl) (.ofT (by kernel_rfl)) ?_
      refine ⟨_, rfl, hE0, ?_⟩
      exact bool_eq (by rw [Bool.eq_iff_iff]; simp only [plainB, Bool.and_eq_true, Bool.or_eq_true, decide_eq_true_eq, Bool.true_and, Bool.and_true, false_iff, true_iff, Bool.false_eq_true, eq_self_iff_true]; omega)
     ·refine L.runU [27, 28, 29, 30] [31, 32, 33, 34] [(30, .int .u8 (x.toNat : Int)), (31, .bool (decide ((x.toNat : Int) = 46))), (32, .bool (decide ((x.toNat : Int) = 46))), (33, .bool (decide ((x.toNat : Int) = 46)))] (by kernel_rfl) (by kernel_rfl) ?_
      refine X.splitP (G := fun σ => L _ _ _ _ _ _ σ _ _) ((x.toNat : Int) = 46) 33 (by kernel_rfl) (fun h128 => ?_) (fun h128 => ?_)
      ·refine L.runU [31, 32, 33, 34] [] [(34, undef), (35, undef), (36, .bool true), (2, .bool true)] (by kernel_rfl) (by kernel_rfl) ?_
       refine L.done ?_
       show S _ _ _ c120_1_1 _ _ _ _
       refine S.ret (by kernel_rfl) ?_
       show Leave _ _ _ _ _ _ _ _
       refine Leave.ret1 (x := .tmp 2) (.bool true) (by kernel_rfl) (.ofT (by kernel_rfl)) ?_
       refine ⟨_, rfl, hE0, ?_⟩
       exact bool_eq (by rw [Bool.eq_iff_iff]; simp only [plainB, Bool.and_eq_true, Bool.or_eq_true, decide_eq_true_eq, Bool.true_and, Bool.and_true, false_iff, true_iff, Bool.false_eq_true, eq_self_iff_true]; omega)
      ·refine L.runU [31, 32, 33, 34] [] [(34, .int .u8 (x.toNat : Int)), (35, .bool (decide ((x.toNat : Int) = 95))), (36, .bool (decide ((x.toNat : Int) = 95))), (2, .bool (decide ((x.toNat : Int) = 95)))] (by kernel_rfl) (by kernel_rfl) ?_
       refine L.done ?_
       show S _ _ _ c120_1_1 _ _ _ _
       refine S.ret (by kernel_rfl) ?_
       show Leave _ _ _ _ _ _ _ _
       refine Leave.ret1 (x := .tmp 2) (.bool (decide ((x.toNat : Int) = 95))) (by kernel_rfl) (.ofT (by kernel_rfl)) ?_
       refine ⟨_, rfl, hE0, ?_⟩
       exact bool_eq (by rw [Bool.eq_iff_iff]; simp only [plainB, Bool.and_eq_true, Bool.or_eq_true, decide_eq_true_eq, Bool.true_and, Bool.and_true, false_iff, true_iff, Bool.false_eq_true, eq_self_iff_true]; omega)
   ·refine L.runU [18, 19, 20, 21, 22, 23, 24, 25, 26] [27, 28, 29, 30, 31, 32, 33, 34] [(21, undef), (22, undef), (23, .bool false), (24, .bool false), (25, .bool false), (26, .int .u8 (x.toNat : Int)), (27, .bool (decide ((x.toNat : Int) = 45))), (28, .bool (decide ((x.toNat : Int) = 45))), (29, .bool (decide ((x.toNat : Int) = 45)))] (by kernel_rfl) (by kernel_rfl) ?_
    refine X.splitP (G := fun σ => L _ _ _ _ _ _ σ _ _) ((x.toNat : Int) = 45) 29 (by kernel_rfl) (fun h129 => ?_) (fun h129 => ?_)
    ·refine L.runU [27, 28, 29, 30, 31, 32, 33, 34] [] [(30, undef), (31, undef), (32, .bool true), (33, .bool true), (34, undef), (35, undef), (36, .bool true), (2, .bool true)] (by kernel_rfl) (by kernel_rfl) ?_
     refine L.done ?_
     show S _ _ _ c120_1_1 _ _ _ _
     refine S.ret (by kernel_rfl) ?_
     show Leave _ _ _ _ _ _ _ _
     refine Leave.ret1 (x := .tmp 2) (.bool true) (by kernel_rfl) (.ofT (by kernel_rfl)) ?_
     refine ⟨_, rfl, hE0, ?_⟩
     exact bool_eq (by rw [Bool.eq_iff_iff]; simp only [plainB, Bool.and_eq_true, Bool.or_eq_true, decide_eq_true_eq, Bool.true_and, Bool.and_true, false_iff, true_iff, Bool.false_eq_true, eq_self_iff_true]; omega)
    ·refine L.runU [27, 28, 29, 30] [31, 32, 33, 34] [(30, .int .u8 (x.toNat : Int)), (31, .bool (decide ((x.toNat : Int) = 46))), (32, .bool (decide ((x.toNat : Int) = 46))), (33, .bool (decide ((x.toNat : Int) = 46)))] (by kernel_rfl) (by kernel_rfl) ?_
     refine X.splitP (G := fun σ => L _ _ _ _ _ _ σ _ _) ((x.toNat : Int) = 46) 33 (by kernel_rfl) (fun h130 => ?_) (fun h130 => ?_)
     ·refine L.runU [31, 32, 33, 34] [] [(34, undef), (35, undef), (36, .bool true), (2, .bool true)] (by kernel_rfl) (by kernel_rfl) ?_
      refine L.done ?_
      show S _ _ _ c120_1_1 _ _ _ _
      refine S.ret (by kernel_rfl) ?_
      show Leave _ _ _ _ _ _ _ _
      refine Leave.ret1 (x := .tmp 2) (.bool true) (by kernel_rfl) (.ofT (by kernel_rfl)) ?_
      refine ⟨_, rfl, hE0, ?_⟩
      exact bool_eq (by rw [Bool.eq_iff_iff]; simp only [plainB, Bool.and_eq_true, Bool.or_eq_true, decide_eq_true_eq, Bool.true_and, Bool.and_true, false_iff, true_iff, Bool.false_eq_true, eq_self_iff_true]; omega)
     ·refine L.runU [31, 32, 33, 34] [] [(34, .int .u8 (x.toNat : Int)), (35, .bool (decide ((x.toNat : Int) = 95))), (36, .bool (decide ((x.toNat : Int) = 95))), (2, .bool (decide ((x.toNat : Int) = 95)))] (by kernel_rfl) (by kernel_rfl) ?_
      refine L.done ?_
      show S _ _ _ c120_1_1 _ _ _ _
      refine S.ret (by kernel_rfl) ?_
      show Leave _ _ _ _ _ _ _ _
      refine Leave.ret1 (x := .tmp 2) (.bool (decide ((x.toNat : Int) = 95))) (by kernel_rfl) (.ofT (by kernel_rfl)) ?_
      refine ⟨_, rfl, hE0, ?_⟩
      exact bool_eq (by rw [Bool.eq_iff_iff]; simp only [plainB, Bool.and_eq_true, Bool.or_eq_true, decide_eq_true_eq, Bool.true_and, Bool.and_true, false_iff, true_iff, Bool.false_eq_true, eq_self_iff_true]; omega)
noncomputable def c121 : Code := bodyOf Tryz.f121
noncomputable def c121_0 : Code := kid 0 c121
noncomputable def o121_0 : Array Oper := regOps c121_0
noncomputable def c121_1 : Code := kid 1 c121
noncomputable def c121_1_0 : Code := kid 0 c121_1
noncomputable def c121_1_0_0 : Code := kid 0 c121_1_0
noncomputable def o121_1_0_0 : Array Oper := regOps c121_1_0_0
noncomputable def c121_1_0_1 : Code := kid 1 c121_1_0
noncomputable def c121_n6 : Code := kid 0 c121_1_0_1
noncomputable def c121_n7 : Code := kid 0 c121_n6
noncomputable def c121_n8 : Code := kid 0 c121_n7
noncomputable def o121_n8 : Array Oper := regOps c121_n8
noncomputable def c121_n9 : Code := kid 1 c121_n7
noncomputable def c121_n10 : Code := kid 0 c121_n9
noncomputable def c121_n11 : Code := kid 0 c121_n10
noncomputable def c121_n12 : Code := kid 1 c121_n10
noncomputable def c121_n13 : Code := kid 1 c121_n9
noncomputable def c121_n14 : Code := kid 0 c121_n13
noncomputable def c121_n15 : Code := kid 0 c121_n14
noncomputable def c121_n16 : Code := kid 0 c121_n15
noncomputable def o121_n16 : Array Oper := regOps c121_n16
noncomputable def c121_n17 : Code := kid 1 c121_n15
noncomputable def c121_n18 : Code := kid 0 c121_n17
noncomputable def o121_n18 : Array Oper := regOps c121_n18
noncomputable def c121_n19 : Code := kid 1 c121_n17
noncomputable def c121_n20 : Code := kid 0 c121_n19
noncomputable def c121_n21 : Code := kid 0 c121_n20
noncomputable def o121_n21 : Array Oper := regOps c121_n21
noncomputable def c121_n22 : Code := kid 1 c121_n20
noncomputable def c121_n23 : Code := kid 1 c121_n19
noncomputable def c121_n24 : Code := kid 1 c121_n13
noncomputable def o121_n24 : Array Oper := regOps c121_n24
noncomputable def c121_1_1 : Code := kid 1 c121_1
noncomputable def c121_1_1_0 : Code := kid 0 c121_1_1
noncomputable def o121_1_1_0 : Array Oper := regOps c121_1_1_0
noncomputable def c121_1_1_1 : Code := kid 1 c121_1_1
set_option maxHeartbeats 400000 in
theorem each_ok (l : Str) (F : Value) (p : UInt8 → Bool) (w : World) (hl : l.length < 4611686018427387904) (hF : ∀ w' x, Eff [] w w' → CallV Tryz.prog F [bv x] w' (RetW [] w' fun v _ => v = .bool (p x))) : Calls Tryz.prog 121 #[sv l, F] w (RetW [] w fun v _ => v = .bool (l.all p)) := by
 refine calls_of_S (n := 19) (c := c121) Tryz.func121 (by kernel_rfl) (by kernel_rfl) (Nat.le_of_ble_eq_true (by kernel_rfl)) ?_
 have hE0 : Eff [] w w := Eff.refl _ _
 refine S.seq (x := c121_0) (y := c121_1) (by kernel_rfl) ?_
 refine S.reg (ops := o121_0) (js := [0]) (by kernel_rfl) (by kernel_rfl) ?_
 refine L.runU [0] [] [(4, .bool false)] (by kernel_rfl) (by kernel_rfl) ?_
 refine L.done ?_
 show S _ _ _ c121_1 _ _ _ _
 refine S.seq (x := c121_1_0) (y := c121_1_1) (by kernel_rfl) ?_
 refine S.seq (x := c121_1_0_0) (y := c121_1_0_1) (by kernel_rfl) ?_
 refine S.reg (ops := o121_1_0_0) (js := [0, 1, 2, 3]) (by kernel_rfl) (by kernel_rfl) ?_
 refine L.runU [0] [1, 2, 3] [(7, sv l)] (by kernel_rfl) (by kernel_rfl) ?_
 refine L.bytes (e := 5) (u := .string) l (by kernel_rfl : lookAt _ _ _ _ = some ((Op.convert 9 128 (Operand.tmp 7)), some 8)) (by kernel_rfl) (by kernel_rfl) (by kernel_rfl) (by kernel_rfl) ?_
 intro b101 cap102 rest103 w104 hs105 hz106 E107 B108 hc109
 have hE110 := hE0.and0 E107
 have := E107.size
 refine L.runU [2, 3] [] [(9, .int .i64 (((l.length : Nat) : Int))), (10, .int .i64 0)] (by kernel_rfl) (by kernel_rfl) ?_
 refine L.done ?_
 show S _ _ _ c121_1_0_1 _ _ _ _
 refine S.block (id := 0) (x := c121_n6) (by kernel_rfl) ?_
 refine S.loop (x := c121_n7) (fun m σ' ds' w' => ∃ (k : Nat), m = l.length - k ∧ (k ≤ l.length) ∧ ((l.take k).all p = true) ∧ Blk w' b101 (l.map bv ++ rest103) 5 ∧ Eff [] w w' ∧ w104.heap.size ≤ w'.heap.size ∧ ds' = [] ∧ ∃ u, σ' = slots u [(1, F), (8, .slice (some ⟨b101, 0, none⟩) l.length cap102), (9, .int .i64 (((l.length : Nat) : Int))), (10, .int .i64 (((k : Nat) : Int)))]) (l.length - 0) (by kernel_rfl) ⟨0, rfl, (by omega), (by rfl), B108, hE110, (Nat.le_refl _), rfl, _, Holds.eq (l := [(1, F), (8, .slice (some ⟨b101, 0, none⟩) l.length cap102), (9, .int .i64 (((l.length : Nat) : Int))), (10, .int .i64 0)]) ⟨by kernel_rfl, by kernel_rfl, by kernel_rfl, by kernel_rfl, trivial⟩⟩ ?_
 rintro m112 σ' ds' w111 ⟨k, hm114, hk, ha, F115, hE116, hz117, rfl, u113, rfl⟩
 refine S.seq (x := c121_n8) (y := c121_n9) (by kernel_rfl) ?_
 refine S.reg (ops := o121_n8) (js := [0]) (by kernel_rfl) (by kernel_rfl) ?_
 refine L.runU [0] [] [(11, .bool (decide (((k : Nat) : Int) < ((l.length : Nat) : Int))))] (by kernel_rfl) (by kernel_rfl) ?_
 refine L.done ?_
 show S _ _ _ c121_n9 _ _ _ _
 refine S.seq (x := c121_n10) (y := c121_n13) (by kernel_rfl) ?_
 refine S.condP (((k : Nat) : Int) < ((l.length : Nat) : Int)) (o := (Operand.tmp 11)) (x := c121_n11) (y := c121_n12) (by kernel_rfl) (by kernel_rfl) (fun h118 => ?_) (fun h118 => ?_)
 ·refine S.skip (by kernel_rfl) ?_
  show S _ _ _ c121_n13 _ _ _ _
  refine S.seq (x := c121_n14) (y := c121_n24) (by kernel_rfl) ?_
  refine S.block (id := 1) (x := c121_n15) (by kernel_rfl) ?_
  refine S.seq (x := c121_n16) (y := c121_n17) (by kernel_rfl) ?_
  refine S.reg (ops := o121_n16) (js := [0, 1, 2]) (by kernel_rfl) (by kernel_rfl) ?_
  obtain ⟨x120, hx121⟩ : ∃ x, (l)[k]? = some x := ⟨_, List.getElem?_eq_getElem (by omega)⟩
  have A119 : CAt [] w111 ((⟨b101, 0, none⟩ : Addr).add k) [bv x120] := .ofByte F115 hx121
  have := x120.toNat_lt
  refine L.val (.pointer (some ((⟨b101, 0, none⟩ : Addr).add k))) (by kernel_rfl : lookAt _ _ _ _ = some ((Op.indexAddr 128 (Operand.tmp 8) (Operand.tmp 10)), some 12)) (by intro c e; cases e) (rx_indexAddr (e := 5) (sz := 1) (a := some ⟨b101, 0, none⟩) (p := (⟨b101, 0, none⟩ : Addr)) (len := l.length) (cap := cap102) (kk := .i64) (i := ((k : Nat) : Int)) k k (by kernel_rfl) (by kernel_rfl) (by kernel_rfl) (by kernel_rfl) (by kernel_rfl) (by omega) (by omega) (by omega)) ?_
  refine L.val (.int .u8 (x120.toNat : Int)) (by kernel_rfl : lookAt _ _ _ _ = some ((Op.load 5 (Operand.tmp 12)), some 13)) (by intro c e; cases e) (rx_load 0 (.int .u8 (x120.toNat : Int)) (A119.1) (by kernel_rfl) (by kernel_rfl)) ?_
  refine L.runU [2] [] [(6, .int .u8 (x120.toNat : Int))] (by kernel_rfl) (by kernel_rfl) ?_
  refine L.done ?_
  show S _ _ _ c121_n17 _ _ _ _
  refine S.seq (x := c121_n18) (y := c121_n19) (by kernel_rfl) ?_
  refine S.reg (ops := o121_n18) (js := [0, 1, 2, 3]) (by kernel_rfl) (by kernel_rfl) ?_
  refine L.runU [0, 1] [2, 3] [(14, F), (15, .int .u8 (x120.toNat : Int))] (by kernel_rfl) (by kernel_rfl) ?_
  refine L.callV (Y := F) (args := [.int .u8 (x120.toNat : Int)]) (by kernel_rfl : lookAt _ _ _ _ = some ((Op.call { callee := (Callee.value (Operand.tmp 14)), args := #[(Operand.tmp 15)], argTypes := #[5] }), some 16)) (by kernel_rfl) (by kernel_rfl) (hF _ _ hE116) ?_
  rintro _ w122 ⟨E123, rfl⟩
  have hE124 := hE116.and0 E123
  have := E123.size
  have B125 := F115.eff0 E123
  have A126 := A119.step same E123 no0
  refine L.runU [3] [] [(17, .bool (!(p x120)))] (by kernel_rfl) (by kernel_rfl) ?_
  refine L.done ?_
  show S _ _ _ c121_n19 _ _ _ _
  refine S.cond (!(p x120)) (o := (Operand.tmp 17)) (x := c121_n20) (y := c121_n23) (by kernel_rfl) (by kernel_rfl) (fun h127 => ?_) (fun h127 => ?_)
  ·refine S.seq (x := c121_n21) (y := c121_n22) (by kernel_rfl) ?_
   refine S.reg (ops := o121_n21) (js := [0]) (by kernel_rfl) (by kernel_rfl) ?_
   refine L.runU [0] [] [(4, .bool false)] (by kernel_rfl) (by kernel_rfl) ?_
   refine L.done ?_
   show S _ _ _ c121_n22 _ _ _ _
   refine S.ret (by kernel_rfl) ?_
   show Leave _ _ _ _ _ _ _ _
   refine Leave.ret1 (x := .tmp 4) (.bool false) (by kernel_rfl) (.ofT (by kernel_rfl)) ?_
   refine ⟨_, rfl, hE124, ?_⟩
   exact bool_eq (all_bad (p := p) ‹_› (by simp_all)).symm
  ·refine S.skip (by kernel_rfl) ?_
   show S _ _ _ c121_n24 _ _ _ _
   refine S.reg (ops := o121_n24) (js := [0, 1]) (by kernel_rfl) (by kernel_rfl) ?_
   refine L.runU [0] [1] [(18, .int .i64 (IntKind.i64.wrap (((k : Nat) : Int) + 1)))] (by kernel_rfl) (by kernel_rfl) ?_
   refine X.re64 (G := fun σ => L _ _ _ _ _ _ σ _ _) (d := 18) (((k : Nat) : Int) + 1) (((k + 1 : Nat) : Int)) (by kernel_rfl) (by omega) ?_
   refine L.runU [1] [] [(10, .int .i64 (((k + 1 : Nat) : Int)))] (by kernel_rfl) (by kernel_rfl) ?_
   refine L.done ?_
   show ∃ m', m' < _ ∧ _
   refine ⟨l.length - (k + 1), ?_, ⟨k + 1, rfl, (by omega), (by exact all_snoc ha (by assumption) (by simp_all)), B125, hE124, (by omega), rfl, _, Holds.eq (l := [(1, F), (8, .slice (some ⟨b101, 0, none⟩) l.length cap102), (9, .int .i64 (((l.length : Nat) : Int))), (10, .int .i64 (((k + 1 : Nat) : Int)))]) ⟨by kernel_rfl, by kernel_rfl, by kernel_rfl, by kernel_rfl, trivial⟩⟩⟩
   omega
 ·refine S.exit (id := 0) (by kernel_rfl) ?_
  show S _ _ _ c121_1_1 _ _ _ _
  refine S.seq (x := c121_1_1_0) (y := c121_1_1_1) (by kernel_rfl) ?_
  refine S.reg (ops := o121_1_1_0) (js := [0]) (by kernel_rfl) (by kernel_rfl) ?_
  refine L.runU [0] [] [(4, .bool true)] (by kernel_rfl) (by kernel_rfl) ?_
  refine L.done ?_
  show S _ _ _ c121_1_1_1 _ _ _ _
  refine S.ret (by kernel_rfl) ?_
  show Leave _ _ _ _ _ _ _ _
  refine Leave.ret1 (x := .tmp 4) (.bool true) (by kernel_rfl) (.ofT (by kernel_rfl)) ?_
  refine ⟨_, rfl, hE116, ?_⟩
  exact bool_eq (all_full ha (by omega)).symm
noncomputable def c80 : Code := bodyOf Tryz.f80
noncomputable def c80_0 : Code := kid 0 c80
noncomputable def o80_0 : Array Oper := regOps c80_0
noncomputable def c80_1 : Code := kid 1 c80
noncomputable def c80_1_0 : Code := kid 0 c80_1
noncomputable def o80_1_0 : Array Oper := regOps c80_1_0
noncomputable def c80_1_1 : Code := kid 1 c80_1
noncomputable def c80_1_1_0 : Code := kid 0 c80_1_1
noncomputable def o80_1_1_0 : Array Oper := regOps c80_1_1_0
noncomputable def c80_1_1_1 : Code := kid 1 c80_1_1
set_option maxHeartbeats 400000 in
theorem mark_ok (l : Str) (w : World) (hl : l.length < 4611686018427387904) : Calls Tryz.prog 80 #[sv l] w (RetW [] w fun v _ => v = .bool (plainF l)) := by
 refine calls_of_S (n := 17) (c := c80) Tryz.func80 (by kernel_rfl) (by kernel_rfl) (Nat.le_of_ble_eq_true (by kernel_rfl)) ?_
 have hE0 : Eff [] w w := Eff.refl _ _
 refine S.seq (x := c80_0) (y := c80_1) (by kernel_rfl) ?_
 refine S.reg (ops := o80_0) (js := [0]) (by kernel_rfl) (by kernel_rfl) ?_
 refine L.runU [0] [] [(2, .bool false)] (by kernel_rfl) (by kernel_rfl) ?_
 refine L.done ?_
 show S _ _ _ c80_1 _ _ _ _
 refine S.seq (x := c80_1_0) (y := c80_1_1) (by kernel_rfl) ?_
 refine S.reg (ops := o80_1_0) (js := [0]) (by kernel_rfl) (by kernel_rfl) ?_
 refine L.runU [0] [] [(3, .func (.func 120) #[] #[])] (by kernel_rfl) (by kernel_rfl) ?_
 refine L.done ?_
 show S _ _ _ c80_1_1 _ _ _ _
 refine S.seq (x := c80_1_1_0) (y := c80_1_1_1) (by kernel_rfl) ?_
 refine S.reg (ops := o80_1_1_0) (js := [0, 1, 2, 3, 4, 5, 6, 7, 8, 9, 10, 11, 12, 13]) (by kernel_rfl) (by kernel_rfl) ?_
 refine L.runU [0, 1, 2, 3] [4, 5, 6, 7, 8, 9, 10, 11, 12, 13] [(4, sv l), (5, .int .i64 (((l.length : Nat) : Int))), (6, .bool (decide (1 ≤ ((l.length : Nat) : Int)))), (7, .bool (decide (1 ≤ ((l.length : Nat) : Int))))] (by kernel_rfl) (by kernel_rfl) ?_
 refine X.splitP (G := fun σ => L _ _ _ _ _ _ σ _ _) (1 ≤ ((l.length : Nat) : Int)) 7 (by kernel_rfl) (fun h101 => ?_) (fun h101 => ?_)
 ·refine L.runU [4, 5, 6, 7, 8] [9, 10, 11, 12, 13] [(8, sv l), (9, .int .i64 (((l.length : Nat) : Int))), (10, .bool (decide (((l.length : Nat) : Int) ≤ 64))), (11, .bool (decide (((l.length : Nat) : Int) ≤ 64))), (12, .bool (decide (((l.length : Nat) : Int) ≤ 64)))] (by kernel_rfl) (by kernel_rfl) ?_
  refine X.splitP (G := fun σ => L _ _ _ _ _ _ σ _ _) (((l.length : Nat) : Int) ≤ 64) 12 (by kernel_rfl) (fun h102 => ?_) (fun h102 => ?_)
  ·refine L.runU [9, 10] [11, 12, 13] [(13, sv l), (14, .func (.func 120) #[] #[])] (by kernel_rfl) (by kernel_rfl) ?_
   refine L.call (f := 121) (by kernel_rfl : lookAt _ _ _ _ = some ((Op.call { callee := (Callee.value (Operand.func 121)), args := #[(Operand.tmp 13), (Operand.tmp 14)], argTypes := #[9, 175] }), some 15)) e121 (by kernel_rfl) (each_ok l (.func (.func 120) #[] #[]) plainB _ (by omega) (fun w' x E => .fn (first := #[]) (cap := #[]) e120 (mk120_ok x w'))) ?_
   rintro _ w104 E105 rfl
   have hE107 := hE0.and0 E105
   have := E105.size
   refine L.runU [12, 13] [] [(16, .bool (l.all plainB)), (2, .bool (l.all plainB))] (by kernel_rfl) (by kernel_rfl) ?_
   refine L.done ?_
   show S _ _ _ c80_1_1_1 _ _ _ _
   refine S.ret (by kernel_rfl) ?_
   show Leave _ _ _ _ _ _ _ _
   refine Leave.ret1 (x := .tmp 2) (.bool (l.all plainB)) (by kernel_rfl) (.ofT (by kernel_rfl)) ?_
   refine ⟨_, rfl, hE107, ?_⟩
   exact bool_eq (by (first | rfl | (rw [Bool.eq_iff_iff]; simp only [plainF, lenIn, Bool.and_eq_true, Bool.or_eq_true, Bool.not_eq_true', decide_eq_true_eq, decide_eq_false_iff_not, Bool.and_true, Bool.true_and, Bool.and_false, Bool.false_and, Bool.or_true, Bool.true_or, Bool.or_false, Bool.false_or, Bool.not_true, Bool.not_false, Bool.false_eq_true, false_iff, iff_false, true_iff, iff_true, eq_self_iff_true, not_true_eq_false, not_false_eq_true]; omega) | (grind [plainF, lenIn]) | (simp [plainF, lenIn]; done) | (rw [Bool.eq_iff_iff]; simp [plainF, lenIn]; done) | (rw [Bool.eq_iff_iff]; simp [plainF, lenIn]; omega) | (simp_all [plainF, lenIn]; done) | (rw [Bool.eq_iff_iff]; simp_all [plainF, lenIn]; done) | (rw [Bool.eq_iff_iff]; simp_all [plainF, lenIn]; omega)))
  ·refine L.runU [9, 10, 11, 12, 13] [] [(13, undef), (14, undef), (15, undef), (16, .bool false), (2, .bool false)] (by kernel_rfl) (by kernel_rfl) ?_
   refine L.done ?_
   show S _ _ _ c80_1_1_1 _ _ _ _
   refine S.ret (by kernel_rfl) ?_
   show Leave _ _ _ _ _ _ _ _
   refine Leave.ret1 (x := .tmp 2) (.bool false) (by kernel_rfl) (.ofT (by kernel_rfl)) ?_
   refine ⟨_, rfl, hE0, ?_⟩
   exact bool_eq (by (first | rfl | (rw [Bool.eq_iff_iff]; simp only [plainF, lenIn, Bool.and_eq_true, Bool.or_eq_true, Bool.not_eq_true', decide_eq_true_eq, decide_eq_false_iff_not, Bool.and_true, Bool.true_and, Bool.and_false, Bool.false_and, Bool.or_true, Bool.true_or, Bool.or_false, Bool.false_or, Bool.not_true, Bool.not_false, Bool.false_eq_true, false_iff, iff_false, true_iff, iff_true, eq_self_iff_true, not_true_eq_false, not_false_eq_true]; omega) | (grind [plainF, lenIn]) | (simp [plainF, lenIn]; done) | (rw [Bool.eq_iff_iff]; simp [plainF, lenIn]; done) | (rw [Bool.eq_iff_iff]; simp [plainF, lenIn]; omega) | (simp_all [plainF, lenIn]; done) | (rw [Bool.eq_iff_iff]; simp_all [plainF, lenIn]; done) | (rw [Bool.eq_iff_iff]; simp_all [plainF, lenIn]; omega)))
 ·refine L.runU [4, 5, 6, 7, 8, 9, 10, 11, 12, 13] [] [(8, undef), (9, undef), (10, undef), (11, .bool false), (12, .bool false), (13, undef), (14, undef), (15, undef), (16, .bool false), (2, .bool false)] (by kernel_rfl) (by kernel_rfl) ?_
  refine L.done ?_
  show S _ _ _ c80_1_1_1 _ _ _ _
  refine S.ret (by kernel_rfl) ?_
  show Leave _ _ _ _ _ _ _ _
  refine Leave.ret1 (x := .tmp 2) (.bool false) (by kernel_rfl) (.ofT (by kernel_rfl)) ?_
  refine ⟨_, rfl, hE0, ?_⟩
  exact bool_eq (by (first | rfl | (rw [Bool.eq_iff_iff]; simp only [plainF, lenIn, Bool.and_eq_true, Bool.or_eq_true, Bool.not_eq_true', decide_eq_true_eq, decide_eq_false_iff_not, Bool.and_true, Bool.true_and, Bool.and_false, Bool.false_and, Bool.or_true, Bool.true_or, Bool.or_false, Bool.false_or, Bool.not_true, Bool.not_false, Bool.false_eq_true, false_iff, iff_false, true_iff, iff_true, eq_self_iff_true, not_true_eq_false, not_false_eq_true]; omega) | (grind [plainF, lenIn]) | (simp [plainF, lenIn]; done) | (rw [Bool.eq_iff_iff]; simp [plainF, lenIn]; done) | (rw [Bool.eq_iff_iff]; simp [plainF, lenIn]; omega) | (simp_all [plainF, lenIn]; done) | (rw [Bool.eq_iff_iff]; simp_all [plainF, lenIn]; done) | (rw [Bool.eq_iff_iff]; simp_all [plainF, lenIn]; omega)))
noncomputable def c52 : Code := bodyOf Tryz.f52
noncomputable def c52_0 : Code := kid 0 c52
noncomputable def o52_0 : Array Oper := regOps c52_0
noncomputable def c52_1 : Code := kid 1 c52
noncomputable def c52_1_0 : Code := kid 0 c52_1
noncomputable def o52_1_0 : Array Oper := regOps c52_1_0
noncomputable def c52_1_1 : Code := kid 1 c52_1
noncomputable def c52_1_1_0 : Code := kid 0 c52_1_1
noncomputable def o52_1_1_0 : Array Oper := regOps c52_1_1_0
noncomputable def c52_1_1_1 : Code := kid 1 c52_1_1
set_option maxHeartbeats 400000 in
theorem dhref_ok (l : Str) (w : World) (hl : l.length < 4611686018427387904) : Calls Tryz.prog 52 #[sv l] w (RetW [] w fun v _ => v = .bool (hrefF l)) := by
 refine calls_of_S (n := 15) (c := c52) Tryz.func52 (by kernel_rfl) (by kernel_rfl) (Nat.le_of_ble_eq_true (by kernel_rfl)) ?_
 have hE0 : Eff [] w w := Eff.refl _ _
 refine S.seq (x := c52_0) (y := c52_1) (by kernel_rfl) ?_
 refine S.reg (ops := o52_0) (js := [0]) (by kernel_rfl) (by kernel_rfl) ?_
 refine L.runU [0] [] [(2, .bool false)] (by kernel_rfl) (by kernel_rfl) ?_
 refine L.done ?_
 show S _ _ _ c52_1 _ _ _ _
 refine S.seq (x := c52_1_0) (y := c52_1_1) (by kernel_rfl) ?_
 refine S.reg (ops := o52_1_0) (js := [0, 1, 2, 3, 4, 5, 6]) (by kernel_rfl) (by kernel_rfl) ?_
 refine L.runU [0] [1, 2, 3, 4, 5, 6] [(6, sv l)] (by kernel_rfl) (by kernel_rfl) ?_
 refine L.call (f := 61) (by kernel_rfl : lookAt _ _ _ _ = some ((Op.call { callee := (Callee.value (Operand.func 61)), args := #[(Operand.tmp 6), (Operand.const (Value.string { data := #[47, 98, 111, 111, 107, 47] }))], argTypes := #[9, 9] }), some 7)) e61 (by kernel_rfl) (cutp2_ok l [47, 98, 111, 111, 107, 47] _ (by omega) (by (simp only [List.length_cons, List.length_nil, List.length_append, List.length_take, List.length_drop, List.length_map, List.length_replicate] <;> omega))) ?_
 rintro _ w102 E103 rfl
 have hE105 := hE0.and0 E103
 have := E103.size
 have := cutpF_len l [47, 98, 111, 111, 107, 47]
 refine L.runU [2, 3, 4, 5, 6] [] [(5, .tuple #[sv (cutpF l [47, 98, 111, 111, 107, 47]), .bool (decide ([47, 98, 111, 111, 107, 47].length ≤ l.length ∧ l.take [47, 98, 111, 111, 107, 47].length = [47, 98, 111, 111, 107, 47]))]), (8, sv (cutpF l [47, 98, 111, 111, 107, 47])), (9, .bool (decide ([47, 98, 111, 111, 107, 47].length ≤ l.length ∧ l.take [47, 98, 111, 111, 107, 47].length = [47, 98, 111, 111, 107, 47]))), (3, sv (cutpF l [47, 98, 111, 111, 107, 47])), (4, .bool (decide ([47, 98, 111, 111, 107, 47].length ≤ l.length ∧ l.take [47, 98, 111, 111, 107, 47].length = [47, 98, 111, 111, 107, 47])))] (by kernel_rfl) (by kernel_rfl) ?_
 refine L.done ?_
 show S _ _ _ c52_1_1 _ _ _ _
 refine S.seq (x := c52_1_1_0) (y := c52_1_1_1) (by kernel_rfl) ?_
 refine S.reg (ops := o52_1_1_0) (js := [0, 1, 2, 3, 4, 5]) (by kernel_rfl) (by kernel_rfl) ?_
 refine L.runU [0, 1] [2, 3, 4, 5] [(10, .bool (decide ([47, 98, 111, 111, 107, 47].length ≤ l.length ∧ l.take [47, 98, 111, 111, 107, 47].length = [47, 98, 111, 111, 107, 47]))), (11, .bool (decide ([47, 98, 111, 111, 107, 47].length ≤ l.length ∧ l.take [47, 98, 111, 111, 107, 47].length = [47, 98, 111, 111, 107, 47])))] (by kernel_rfl) (by kernel_rfl) ?_
 refine X.splitP (G := fun σ => L _ _ _ _ _ _ σ _ _) ([47, 98, 111, 111, 107, 47].length ≤ l.length ∧ l.take [47, 98, 111, 111, 107, 47].length = [47, 98, 111, 111, 107, 47]) 11 (by kernel_rfl) (fun h106 => ?_) (fun h106 => ?_)
 ·refine L.runU [2] [3, 4, 5] [(12, sv (cutpF l [47, 98, 111, 111, 107, 47]))] (by kernel_rfl) (by kernel_rfl) ?_
  refine L.call (f := 80) (by kernel_rfl : lookAt _ _ _ _ = some ((Op.call { callee := (Callee.value (Operand.func 80)), args := #[(Operand.tmp 12)], argTypes := #[9] }), some 13)) e80 (by kernel_rfl) (mark_ok (cutpF l [47, 98, 111, 111, 107, 47]) _ (by omega)) ?_
  rintro _ w108 E109 rfl
  have hE111 := hE105.and0 E109
  have := E109.size
  refine L.runU [4, 5] [] [(14, .bool (plainF (cutpF l [47, 98, 111, 111, 107, 47]))), (2, .bool (plainF (cutpF l [47, 98, 111, 111, 107, 47])))] (by kernel_rfl) (by kernel_rfl) ?_
  refine L.done ?_
  show S _ _ _ c52_1_1_1 _ _ _ _
  refine S.ret (by kernel_rfl) ?_
  show Leave _ _ _ _ _ _ _ _
  refine Leave.ret1 (x := .tmp 2) (.bool (plainF (cutpF l [47, 98, 111, 111, 107, 47]))) (by kernel_rfl) (.ofT (by kernel_rfl)) ?_
  refine ⟨_, rfl, hE111, ?_⟩
  first | exact bool_eq (href_yes ‹_›) | exact bool_eq (href_no ‹_›)
 ·refine L.runU [2, 3, 4, 5] [] [(12, undef), (13, undef), (14, .bool false), (2, .bool false)] (by kernel_rfl) (by kernel_rfl) ?_
  refine L.done ?_
  show S _ _ _ c52_1_1_1 _ _ _ _
  refine S.ret (by kernel_rfl) ?_
  show Leave _ _ _ _ _ _ _ _
  refine Leave.ret1 (x := .tmp 2) (.bool false) (by kernel_rfl) (.ofT (by kernel_rfl)) ?_
  refine ⟨_, rfl, hE105, ?_⟩
  first | exact bool_eq (href_yes ‹_›) | exact bool_eq (href_no ‹_›)
noncomputable def c50 : Code := bodyOf Tryz.f50
noncomputable def c50_0 : Code := kid 0 c50
noncomputable def o50_0 : Array Oper := regOps c50_0
noncomputable def c50_1 : Code := kid 1 c50
noncomputable def c50_1_0 : Code := kid 0 c50_1
noncomputable def c50_1_0_0 : Code := kid 0 c50_1_0
noncomputable def o50_1_0_0 : Array Oper := regOps c50_1_0_0
noncomputable def c50_1_0_1 : Code := kid 1 c50_1_0
noncomputable def c50_n6 : Code := kid 0 c50_1_0_1
noncomputable def c50_n7 : Code := kid 0 c50_n6
noncomputable def c50_n8 : Code := kid 0 c50_n7
noncomputable def o50_n8 : Array Oper := regOps c50_n8
noncomputable def c50_n9 : Code := kid 1 c50_n7
noncomputable def c50_n10 : Code := kid 0 c50_n9
noncomputable def c50_n11 : Code := kid 0 c50_n10
noncomputable def c50_n12 : Code := kid 1 c50_n10
noncomputable def c50_n13 : Code := kid 1 c50_n9
noncomputable def c50_n14 : Code := kid 0 c50_n13
noncomputable def c50_n15 : Code := kid 0 c50_n14
noncomputable def c50_n16 : Code := kid 0 c50_n15
noncomputable def o50_n16 : Array Oper := regOps c50_n16
noncomputable def c50_n17 : Code := kid 1 c50_n15
noncomputable def c50_n18 : Code := kid 0 c50_n17
noncomputable def o50_n18 : Array Oper := regOps c50_n18
noncomputable def c50_n19 : Code := kid 1 c50_n17
noncomputable def c50_n20 : Code := kid 0 c50_n19
noncomputable def c50_n21 : Code := kid 0 c50_n20
noncomputable def o50_n21 : Array Oper := regOps c50_n21
noncomputable def c50_n22 : Code := kid 1 c50_n20
noncomputable def c50_n23 : Code := kid 1 c50_n19
noncomputable def c50_n24 : Code := kid 1 c50_n13
noncomputable def o50_n24 : Array Oper := regOps c50_n24
noncomputable def c50_1_1 : Code := kid 1 c50_1
noncomputable def c50_1_1_0 : Code := kid 0 c50_1_1
noncomputable def o50_1_1_0 : Array Oper := regOps c50_1_1_0
noncomputable def c50_1_1_1 : Code := kid 1 c50_1_1
set_option maxHeartbeats 400000 in
theorem uuid_ok (l : Str) (w : World) (hl : l.length < 4611686018427387904) : Calls Tryz.prog 50 #[sv l] w (RetW [] w fun v _ => v = .bool (uuidF l)) := by
 refine calls_of_S (n := 27) (c := c50) Tryz.func50 (by kernel_rfl) (by kernel_rfl) (Nat.le_of_ble_eq_true (by kernel_rfl)) ?_
 have hE0 : Eff [] w w := Eff.refl _ _
 refine S.seq (x := c50_0) (y := c50_1) (by kernel_rfl) ?_
 refine S.reg (ops := o50_0) (js := [0]) (by kernel_rfl) (by kernel_rfl) ?_
 refine L.runU [0] [] [(2, .bool false)] (by kernel_rfl) (by kernel_rfl) ?_
 refine L.done ?_
 show S _ _ _ c50_1 _ _ _ _
 refine S.seq (x := c50_1_0) (y := c50_1_1) (by kernel_rfl) ?_
 refine S.seq (x := c50_1_0_0) (y := c50_1_0_1) (by kernel_rfl) ?_
 refine S.reg (ops := o50_1_0_0) (js := [0, 1, 2, 3]) (by kernel_rfl) (by kernel_rfl) ?_
 refine L.runU [0] [1, 2, 3] [(5, sv l)] (by kernel_rfl) (by kernel_rfl) ?_
 refine L.bytes (e := 5) (u := .string) l (by kernel_rfl : lookAt _ _ _ _ = some ((Op.convert 9 128 (Operand.tmp 5)), some 6)) (by kernel_rfl) (by kernel_rfl) (by kernel_rfl) (by kernel_rfl) ?_
 intro b101 cap102 rest103 w104 hs105 hz106 E107 B108 hc109
 have hE110 := hE0.and0 E107
 have := E107.size
 refine L.runU [2, 3] [] [(7, .int .i64 (((l.length : Nat) : Int))), (8, .int .i64 0)] (by kernel_rfl) (by kernel_rfl) ?_
 refine L.done ?_
 show S _ _ _ c50_1_0_1 _ _ _ _
 refine S.block (id := 0) (x := c50_n6) (by kernel_rfl) ?_
 refine S.loop (x := c50_n7) (fun m σ' ds' w' => ∃ (k : Nat), m = l.length - k ∧ (k ≤ l.length) ∧ ((l.take k).all uuB = true) ∧ w104 = w' ∧ ds' = [] ∧ ∃ u, σ' = slots u [(0, sv l), (2, .bool false), (6, .slice (some ⟨b101, 0, none⟩) l.length cap102), (7, .int .i64 (((l.length : Nat) : Int))), (8, .int .i64 (((k : Nat) : Int)))]) (l.length - 0) (by kernel_rfl) ⟨0, rfl, (by omega), (by rfl), rfl, rfl, _, Holds.eq (l := [(0, sv l), (2, .bool false), (6, .slice (some ⟨b101, 0, none⟩) l.length cap102), (7, .int .i64 (((l.length : Nat) : Int))), (8, .int .i64 0)]) ⟨by kernel_rfl, by kernel_rfl, by kernel_rfl, by kernel_rfl, by kernel_rfl, trivial⟩⟩ ?_
 rintro m112 σ' ds' w' ⟨k, hm114, hk, ha, rfl, rfl, u113, rfl⟩
 refine S.seq (x := c50_n8) (y := c50_n9) (by kernel_rfl) ?_
 refine S.reg (ops := o50_n8) (js := [0]) (by kernel_rfl) (by kernel_rfl) ?_
 refine L.runU [0] [] [(9, .bool (decide (((k : Nat) : Int) < ((l.length : Nat) : Int))))] (by kernel_rfl) (by kernel_rfl) ?_
 refine L.done ?_
 show S _ _ _ c50_n9 _ _ _ _
 refine S.seq (x := c50_n10) (y := c50_n13) (by kernel_rfl) ?_
 refine S.condP (((k : Nat) : Int) < ((l.length : Nat) : Int)) (o := (Operand.tmp 9)) (x := c50_n11) (y := c50_n12) (by kernel_rfl) (by kernel_rfl) (fun h115 => ?_) (fun h115 => ?_)
 ·refine S.skip (by kernel_rfl) ?_
  show S _ _ _ c50_n13 _ _ _ _
  refine S.seq (x := c50_n14) (y := c50_n24) (by kernel_rfl) ?_
  refine S.block (id := 1) (x := c50_n15) (by kernel_rfl) ?_
  refine S.seq (x := c50_n16) (y := c50_n17) (by kernel_rfl) ?_
  refine S.reg (ops := o50_n16) (js := [0, 1, 2]) (by kernel_rfl) (by kernel_rfl) ?_
  obtain ⟨x117, hx118⟩ : ∃ x, (l)[k]? = some x := ⟨_, List.getElem?_eq_getElem (by omega)⟩
  have A116 : CAt [] w104 ((⟨b101, 0, none⟩ : Addr).add k) [bv x117] := .ofByte B108 hx118
  have := x117.toNat_lt
  refine L.val (.pointer (some ((⟨b101, 0, none⟩ : Addr).add k))) (by kernel_rfl : lookAt _ _ _ _ = some ((Op.indexAddr 128 (Operand.tmp 6) (Operand.tmp 8)), some 10)) (by intro c e; cases e) (rx_indexAddr (e := 5) (sz := 1) (a := some ⟨b101, 0, none⟩) (p := (⟨b101, 0, none⟩ : Addr)) (len := l.length) (cap := cap102) (kk := .i64) (i := ((k : Nat) : Int)) k k (by kernel_rfl) (by kernel_rfl) (by kernel_rfl) (by kernel_rfl) (by kernel_rfl) (by omega) (by omega) (by omega)) ?_
  refine L.val (.int .u8 (x117.toNat : Int)) (by kernel_rfl : lookAt _ _ _ _ = some ((Op.load 5 (Operand.tmp 10)), some 11)) (by intro c e; cases e) (rx_load 0 (.int .u8 (x117.toNat : Int)) (A116.1) (by kernel_rfl) (by kernel_rfl)) ?_
  refine L.runU [2] [] [(4, .int .u8 (x117.toNat : Int))] (by kernel_rfl) (by kernel_rfl) ?_
  refine L.done ?_
  show S _ _ _ c50_n17 _ _ _ _
  refine S.seq (x := c50_n18) (y := c50_n19) (by kernel_rfl) ?_
  refine S.reg (ops := o50_n18) (js := [0, 1, 2, 3, 4, 5]) (by kernel_rfl) (by kernel_rfl) ?_
  refine L.runU [0, 1, 2] [3, 4, 5] [(12, .int .u8 (x117.toNat : Int)), (13, .bool (decide ((x117.toNat : Int) < 33))), (14, .bool (decide ((x117.toNat : Int) < 33)))] (by kernel_rfl) (by kernel_rfl) ?_
  refine X.splitP (G := fun σ => L _ _ _ _ _ _ σ _ _) ((x117.toNat : Int) < 33) 14 (by kernel_rfl) (fun h119 => ?_) (fun h119 => ?_)
  ·refine L.runU [3, 4, 5] [] [(15, undef), (16, undef), (17, .bool true)] (by kernel_rfl) (by kernel_rfl) ?_
   refine L.done ?_
   show S _ _ _ c50_n19 _ _ _ _
   refine S.condT (o := (Operand.tmp 17)) (x := c50_n20) (y := c50_n23) (by kernel_rfl) (by kernel_rfl) ?_
   refine S.seq (x := c50_n21) (y := c50_n22) (by kernel_rfl) ?_
   refine S.reg (ops := o50_n21) (js := [0]) (by kernel_rfl) (by kernel_rfl) ?_
   refine L.runU [0] [] [(2, .bool false)] (by kernel_rfl) (by kernel_rfl) ?_
   refine L.done ?_
   show S _ _ _ c50_n22 _ _ _ _
   refine S.ret (by kernel_rfl) ?_
   show Leave _ _ _ _ _ _ _ _
   refine Leave.ret1 (x := .tmp 2) (.bool false) (by kernel_rfl) (.ofT (by kernel_rfl)) ?_
   refine ⟨_, rfl, hE110, ?_⟩
   first | exact bool_eq (by rw [uuidF, all_full ha (by omega)]; (first | rfl | (rw [Bool.eq_iff_iff]; simp only [lenIn, Bool.and_eq_true, Bool.or_eq_true, Bool.not_eq_true', decide_eq_true_eq, decide_eq_false_iff_not, Bool.and_true, Bool.true_and, Bool.and_false, Bool.false_and, Bool.or_true, Bool.true_or, Bool.or_false, Bool.false_or, Bool.not_true, Bool.not_false, Bool.false_eq_true, false_iff, iff_false, true_iff, iff_true, eq_self_iff_true, not_true_eq_false, not_false_eq_true]; omega) | (grind [lenIn]) | (simp [lenIn]; done) | (rw [Bool.eq_iff_iff]; simp [lenIn]; done) | (rw [Bool.eq_iff_iff]; simp [lenIn]; omega) | (simp_all [lenIn]; done) | (rw [Bool.eq_iff_iff]; simp_all [lenIn]; done) | (rw [Bool.eq_iff_iff]; simp_all [lenIn]; omega))) | exact bool_eq (by simp only [uuidF, all_bad (p := uuB) ‹_› (by simp [uuB]; omega), Bool.false_and, Bool.and_false])
  ·refine L.runU [3, 4, 5] [] [(15, .int .u8 (x117.toNat : Int)), (16, .bool (decide (126 < (x117.toNat : Int)))), (17, .bool (decide (126 < (x117.toNat : Int))))] (by kernel_rfl) (by kernel_rfl) ?_
   refine L.done ?_
   show S _ _ _ c50_n19 _ _ _ _
   refine S.condP (126 < (x117.toNat : Int)) (o := (Operand.tmp 17)) (x := c50_n20) (y := c50_n23) (by kernel_rfl) (by kernel_rfl) (fun h120 => ?_) (fun h120 => ?_)
   ·refine S.seq (x := c50_n21) (y := c50_n22) (by kernel_rfl) ?_
    refine S.reg (ops := o50_n21) (js := [0]) (by kernel_rfl) (by kernel_rfl) ?_
    refine L.runU [0] [] [(2, .bool false)] (by kernel_rfl) (by kernel_rfl) ?_
    refine L.done ?_
    show S _ _ _ c50_n22 _ _ _ _
    refine S.ret (by kernel_rfl) ?_
    show Leave _ _ _ _ _ _ _ _
    refine Leave.ret1 (x := .tmp 2) (.bool false) (by kernel_rfl) (.ofT (by kernel_rfl)) ?_
    refine ⟨_, rfl, hE110, ?_⟩
    first | exact bool_eq (by rw [uuidF, all_full ha (by omega)]; (first | rfl | (rw [Bool.eq_iff_iff]; simp only [lenIn, Bool.and_eq_true, Bool.or_eq_true, Bool.not_eq_true', decide_eq_true_eq, decide_eq_false_iff_not, Bool.and_true, Bool.true_and, Bool.and_false, Bool.false_and, Bool.or_true, Bool.true_or, Bool.or_false, Bool.false_or, Bool.not_true, Bool.not_false, Bool.false_eq_true, false_iff, iff_false, true_iff, iff_true, eq_self_iff_true, not_true_eq_false, not_false_eq_true]; omega) | (grind [lenIn]) | (simp [lenIn]; done) | (rw [Bool.eq_iff_iff]; simp [lenIn]; done) | (rw [Bool.eq_iff_iff]; simp [lenIn]; omega) | (simp_all [lenIn]; done) | (rw [Bool.eq_iff_iff]; simp_all [lenIn]; done) | (rw [Bool.eq_iff_iff]; simp_all [lenIn]; omega))) | exact bool_eq (by simp only [uuidF, all_bad (p := uuB) ‹_› (by simp [uuB]; omega), Bool.false_and, Bool.and_false])
   ·refine S.skip (by kernel_rfl) ?_
    show S _ _ _ c50_n24 _ _ _ _
    refine S.reg (ops := o50_n24) (js := [0, 1]) (by kernel_rfl) (by kernel_rfl) ?_
    refine L.runU [0] [1] [(18, .int .i64 (IntKind.i64.wrap (((k : Nat) : Int) + 1)))] (by kernel_rfl) (by kernel_rfl) ?_
    refine X.re64 (G := fun σ => L _ _ _ _ _ _ σ _ _) (d := 18) (((k : Nat) : Int) + 1) (((k + 1 : Nat) : Int)) (by kernel_rfl) (by omega) ?_
    refine L.runU [1] [] [(8, .int .i64 (((k + 1 : Nat) : Int)))] (by kernel_rfl) (by kernel_rfl) ?_
    refine L.done ?_
    show ∃ m', m' < _ ∧ _
    refine ⟨l.length - (k + 1), ?_, ⟨k + 1, rfl, (by omega), (by exact all_snoc ha (by assumption) (by simp [uuB]; omega)), rfl, rfl, _, Holds.eq (l := [(0, sv l), (2, .bool false), (6, .slice (some ⟨b101, 0, none⟩) l.length cap102), (7, .int .i64 (((l.length : Nat) : Int))), (8, .int .i64 (((k + 1 : Nat) : Int)))]) ⟨by kernel_rfl, by kernel_rfl, by kernel_rfl, by kernel_rfl, by kernel_rfl, trivial⟩⟩⟩
    omega
 ·refine S.exit (id := 0) (by kernel_rfl) ?_
  show S _ _ _ c50_1_1 _ _ _ _
  refine S.seq (x := c50_1_1_0) (y := c50_1_1_1) (by kernel_rfl) ?_
  refine S.reg (ops := o50_1_1_0) (js := [0, 1, 2, 3, 4, 5, 6, 7, 8]) (by kernel_rfl) (by kernel_rfl) ?_
  refine L.runU [0, 1, 2, 3] [4, 5, 6, 7, 8] [(19, sv l), (20, .int .i64 (((l.length : Nat) : Int))), (21, .bool (decide (1 ≤ ((l.length : Nat) : Int)))), (22, .bool (decide (1 ≤ ((l.length : Nat) : Int))))] (by kernel_rfl) (by kernel_rfl) ?_
  refine X.splitP (G := fun σ => L _ _ _ _ _ _ σ _ _) (1 ≤ ((l.length : Nat) : Int)) 22 (by kernel_rfl) (fun h121 => ?_) (fun h121 => ?_)
  ·refine L.runU [4, 5, 6, 7, 8] [] [(23, sv l), (24, .int .i64 (((l.length : Nat) : Int))), (25, .bool (decide (((l.length : Nat) : Int) ≤ 64))), (26, .bool (decide (((l.length : Nat) : Int) ≤ 64))), (2, .bool (decide (((l.length : Nat) : Int) ≤ 64)))] (by kernel_rfl) (by kernel_rfl) ?_
   refine L.done ?_
   show S _ _ _ c50_1_1_1 _ _ _ _
   refine S.ret (by kernel_rfl) ?_
   show Leave _ _ _ _ _ _ _ _
   refine Leave.ret1 (x := .tmp 2) (.bool (decide (((l.length : Nat) : Int) ≤ 64))) (by kernel_rfl) (.ofT (by kernel_rfl)) ?_
   refine ⟨_, rfl, hE110, ?_⟩
   first | exact bool_eq (by rw [uuidF, all_full ha (by omega)]; (first | rfl | (rw [Bool.eq_iff_iff]; simp only [lenIn, Bool.and_eq_true, Bool.or_eq_true, Bool.not_eq_true', decide_eq_true_eq, decide_eq_false_iff_not, Bool.and_true, Bool.true_and, Bool.and_false, Bool.false_and, Bool.or_true, Bool.true_or, Bool.or_false, Bool.false_or, Bool.not_true, Bool.not_false, Bool.false_eq_true, false_iff, iff_false, true_iff, iff_true, eq_self_iff_true, not_true_eq_false, not_false_eq_true]; omega) | (grind [lenIn]) | (simp [lenIn]; done) | (rw [Bool.eq_iff_iff]; simp [lenIn]; done) | (rw [Bool.eq_iff_iff]; simp [lenIn]; omega) | (simp_all [lenIn]; done) | (rw [Bool.eq_iff_iff]; simp_all [lenIn]; done) | (rw [Bool.eq_iff_iff]; simp_all [lenIn]; omega))) | exact bool_eq (by simp only [uuidF, all_bad (p := uuB) ‹_› (by simp [uuB]; omega), Bool.false_and, Bool.and_false])
  ·refine L.runU [4, 5, 6, 7, 8] [] [(23, undef), (24, undef), (25, undef), (26, .bool false), (2, .bool false)] (by kernel_rfl) (by kernel_rfl) ?_
   refine L.done ?_
   show S _ _ _ c50_1_1_1 _ _ _ _
   refine S.ret (by kernel_rfl) ?_
   show Leave _ _ _ _ _ _ _ _
   refine Leave.ret1 (x := .tmp 2) (.bool false) (by kernel_rfl) (.ofT (by kernel_rfl)) ?_
   refine ⟨_, rfl, hE110, ?_⟩
   first | exact bool_eq (by rw [uuidF, all_full ha (by omega)]; (first | rfl | (rw [Bool.eq_iff_iff]; simp only [lenIn, Bool.and_eq_true, Bool.or_eq_true, Bool.not_eq_true', decide_eq_true_eq, decide_eq_false_iff_not, Bool.and_true, Bool.true_and, Bool.and_false, Bool.false_and, Bool.or_true, Bool.true_or, Bool.or_false, Bool.false_or, Bool.not_true, Bool.not_false, Bool.false_eq_true, false_iff, iff_false, true_iff, iff_true, eq_self_iff_true, not_true_eq_false, not_false_eq_true]; omega) | (grind [lenIn]) | (simp [lenIn]; done) | (rw [Bool.eq_iff_iff]; simp [lenIn]; done) | (rw [Bool.eq_iff_iff]; simp [lenIn]; omega) | (simp_all [lenIn]; done) | (rw [Bool.eq_iff_iff]; simp_all [lenIn]; done) | (rw [Bool.eq_iff_iff]; simp_all [lenIn]; omega))) | exact bool_eq (by simp only [uuidF, all_bad (p := uuB) ‹_› (by simp [uuB]; omega), Bool.false_and, Bool.and_false])
end Go.Proofs.YtjleeadiadpiaaaGreatDoor
namespace Go.Proofs.YtjleeadiadpiaaaGreatDoor
open Go Go.Fx Go.RowKit
def letB (x : UInt8) : Bool := (decide (65 ≤ x.toNat) && decide (x.toNat ≤ 90)) || (decide (97 ≤ x.toNat) && decide (x.toNat ≤ 122))
def digB (x : UInt8) : Bool := decide (48 ≤ x.toNat) && decide (x.toNat ≤ 57)
def nmB (i : Nat) (x : UInt8) : Bool := letB x || (decide (i ≠ 0) && (digB x || decide (x.toNat = 45)))
def nameB (l : Str) (i : Nat) : Bool := nmB i (l.getD i 0)
def nameF (l : Str) : Bool := lenIn l 1 64 && allI l.length (nameB l)
theorem nameB_of {l : Str} {k : Nat} {x : UInt8} {b : Bool} (hx : l[k]? = some x) (h : nmB k x = b) : nameB l k = b := by rw [nameB, getD_of hx, h]
def smallB (x : UInt8) : UInt8 := if 65 ≤ x.toNat ∧ x.toNat ≤ 90 then UInt8.ofNat (x.toNat + 32) else x
def smallF (l : Str) : Str := l.map smallB
theorem small_get {l l2 : Str} {k : Nat} {x : UInt8} (h : l2 = (l.take k).map smallB ++ l.drop k) (hk : k < l.length) (hx : l2[k]? = some x) : l[k]? = some x := by
 subst h
 rw [List.getElem?_append_right (by simp; omega)] at hx
 simp only [List.length_map, List.length_take, List.getElem?_drop] at hx
 rw [← hx]; congr 1; omega
theorem small_set {l l2 : Str} {k : Nat} {x y : UInt8} (h : l2 = (l.take k).map smallB ++ l.drop k) (hk : k < l.length) (hx : l2[k]? = some x) (hy : y = smallB x) : l2.set k y = (l.take (k + 1)).map smallB ++ l.drop (k + 1) := by
 have hx' := small_get h hk hx
 obtain ⟨_, rfl⟩ := List.getElem?_eq_some_iff.1 hx'
 subst h
 rw [List.set_append_right _ _ (by simp; omega), List.drop_eq_getElem_cons hk, List.take_succ_eq_append_getElem hk]
 simp only [List.length_map, List.length_take]
 rw [show k - min k l.length = 0 by omega, List.set_cons_zero, hy]; simp only [List.map_append, List.map_cons, List.map_nil, List.append_assoc, List.cons_append, List.nil_append]
theorem small_skip {l l2 : Str} {k : Nat} {x : UInt8} (h : l2 = (l.take k).map smallB ++ l.drop k) (hk : k < l.length) (hx : l2[k]? = some x) (hy : x = smallB x) : l2 = (l.take (k + 1)).map smallB ++ l.drop (k + 1) := by
 rw [← small_set h hk hx hy]
 obtain ⟨_, rfl⟩ := List.getElem?_eq_some_iff.1 hx
 simp
theorem smallB_yes {x : UInt8} {z : Int} (h1 : 65 ≤ x.toNat) (h2 : x.toNat ≤ 90) (hz : z = (x.toNat : Int) + 32) : UInt8.ofNat z.toNat = smallB x := by
 rw [smallB, if_pos ⟨h1, h2⟩, hz]; congr 1
theorem smallB_no {x : UInt8} (h : ¬ (65 ≤ x.toNat ∧ x.toNat ≤ 90)) : x = smallB x := by rw [smallB, if_neg h]
theorem small_end {l l2 : Str} {k : Nat} (h : l2 = (l.take k).map smallB ++ l.drop k) (hk : l.length ≤ k) : l2 = smallF l := by
 rw [h, List.take_of_length_le hk, List.drop_of_length_le hk, List.append_nil]; rfl
noncomputable def c117 : Code := bodyOf Tryz.f117
noncomputable def c117_0 : Code := kid 0 c117
noncomputable def o117_0 : Array Oper := regOps c117_0
noncomputable def c117_1 : Code := kid 1 c117
noncomputable def c117_1_0 : Code := kid 0 c117_1
noncomputable def o117_1_0 : Array Oper := regOps c117_1_0
noncomputable def c117_1_1 : Code := kid 1 c117_1
set_option maxHeartbeats 400000 in
theorem within_ok (x : UInt8) (a b : Int) (w : World)  : Calls Tryz.prog 117 #[.int .u8 (x.toNat : Int), .int .u8 a, .int .u8 b] w (RetW [] w fun v _ => v = .bool (decide (a ≤ (x.toNat : Int)) && decide ((x.toNat : Int) ≤ b))) := by
 refine calls_of_S (n := 15) (c := c117) Tryz.func117 (by kernel_rfl) (by kernel_rfl) (Nat.le_of_ble_eq_true (by kernel_rfl)) ?_
 have hE0 : Eff [] w w := Eff.refl _ _
 refine S.seq (x := c117_0) (y := c117_1) (by kernel_rfl) ?_
 refine S.reg (ops := o117_0) (js := [0]) (by kernel_rfl) (by kernel_rfl) ?_
 refine L.runU [0] [] [(6, .bool false)] (by kernel_rfl) (by kernel_rfl) ?_
 refine L.done ?_
 show S _ _ _ c117_1 _ _ _ _
 refine S.seq (x := c117_1_0) (y := c117_1_1) (by kernel_rfl) ?_
 refine S.reg (ops := o117_1_0) (js := [0, 1, 2, 3, 4, 5, 6, 7, 8]) (by kernel_rfl) (by kernel_rfl) ?_
 refine L.runU [0, 1, 2, 3] [4, 5, 6, 7, 8] [(7, .int .u8 (x.toNat : Int)), (8, .int .u8 a), (9, .bool (decide (a ≤ (x.toNat : Int)))), (10, .bool (decide (a ≤ (x.toNat : Int))))] (by kernel_rfl) (by kernel_rfl) ?_
 refine X.splitP (G := fun σ => L _ _ _ _ _ _ σ _ _) (a ≤ (x.toNat : Int)) 10 (by kernel_rfl) (fun h101 => ?_) (fun h101 => ?_)
 ·refine L.runU [4, 5, 6, 7, 8] [] [(11, .int .u8 (x.toNat : Int)), (12, .int .u8 b), (13, .bool (decide ((x.toNat : Int) ≤ b))), (14, .bool (decide ((x.toNat : Int) ≤ b))), (6, .bool (decide ((x.toNat : Int) ≤ b)))] (by kernel_rfl) (by kernel_rfl) ?_
  refine L.done ?_
  show S _ _ _ c117_1_1 _ _ _ _
  refine S.ret (by kernel_rfl) ?_
  show Leave _ _ _ _ _ _ _ _
  refine Leave.ret1 (x := .tmp 6) (.bool (decide ((x.toNat : Int) ≤ b))) (by kernel_rfl) (.ofT (by kernel_rfl)) ?_
  refine ⟨_, rfl, hE0, ?_⟩
  exact bool_eq (by (first | rfl | (rw [Bool.eq_iff_iff]; simp only [Bool.and_eq_true, Bool.or_eq_true, Bool.not_eq_true', decide_eq_true_eq, decide_eq_false_iff_not, Bool.and_true, Bool.true_and, Bool.and_false, Bool.false_and, Bool.or_true, Bool.true_or, Bool.or_false, Bool.false_or, Bool.not_true, Bool.not_false, Bool.false_eq_true, false_iff, iff_false, true_iff, iff_true, eq_self_iff_true, not_true_eq_false, not_false_eq_true]; omega) | (grind []) | (simp []; done) | (rw [Bool.eq_iff_iff]; simp []; done) | (rw [Bool.eq_iff_iff]; simp []; omega) | (simp_all []; done) | (rw [Bool.eq_iff_iff]; simp_all []; done) | (rw [Bool.eq_iff_iff]; simp_all []; omega)))
 ·refine L.runU [4, 5, 6, 7, 8] [] [(11, undef), (12, undef), (13, undef), (14, .bool false), (6, .bool false)] (by kernel_rfl) (by kernel_rfl) ?_
  refine L.done ?_
  show S _ _ _ c117_1_1 _ _ _ _
  refine S.ret (by kernel_rfl) ?_
  show Leave _ _ _ _ _ _ _ _
  refine Leave.ret1 (x := .tmp 6) (.bool false) (by kernel_rfl) (.ofT (by kernel_rfl)) ?_
  refine ⟨_, rfl, hE0, ?_⟩
  exact bool_eq (by (first | rfl | (rw [Bool.eq_iff_iff]; simp only [Bool.and_eq_true, Bool.or_eq_true, Bool.not_eq_true', decide_eq_true_eq, decide_eq_false_iff_not, Bool.and_true, Bool.true_and, Bool.and_false, Bool.false_and, Bool.or_true, Bool.true_or, Bool.or_false, Bool.false_or, Bool.not_true, Bool.not_false, Bool.false_eq_true, false_iff, iff_false, true_iff, iff_true, eq_self_iff_true, not_true_eq_false, not_false_eq_true]; omega) | (grind []) | (simp []; done) | (rw [Bool.eq_iff_iff]; simp []; done) | (rw [Bool.eq_iff_iff]; simp []; omega) | (simp_all []; done) | (rw [Bool.eq_iff_iff]; simp_all []; done) | (rw [Bool.eq_iff_iff]; simp_all []; omega)))
noncomputable def c77 : Code := bodyOf Tryz.f77
noncomputable def c77_0 : Code := kid 0 c77
noncomputable def o77_0 : Array Oper := regOps c77_0
noncomputable def c77_1 : Code := kid 1 c77
noncomputable def c77_1_0 : Code := kid 0 c77_1
noncomputable def c77_1_0_0 : Code := kid 0 c77_1_0
noncomputable def o77_1_0_0 : Array Oper := regOps c77_1_0_0
noncomputable def c77_1_0_1 : Code := kid 1 c77_1_0
noncomputable def c77_n6 : Code := kid 0 c77_1_0_1
noncomputable def c77_n7 : Code := kid 0 c77_n6
noncomputable def c77_n8 : Code := kid 0 c77_n7
noncomputable def o77_n8 : Array Oper := regOps c77_n8
noncomputable def c77_n9 : Code := kid 1 c77_n7
noncomputable def c77_n10 : Code := kid 0 c77_n9
noncomputable def c77_n11 : Code := kid 0 c77_n10
noncomputable def c77_n12 : Code := kid 1 c77_n10
noncomputable def c77_n13 : Code := kid 1 c77_n9
noncomputable def c77_n14 : Code := kid 0 c77_n13
noncomputable def c77_n15 : Code := kid 0 c77_n14
noncomputable def c77_n16 : Code := kid 0 c77_n15
noncomputable def o77_n16 : Array Oper := regOps c77_n16
noncomputable def c77_n17 : Code := kid 1 c77_n15
noncomputable def c77_n18 : Code := kid 0 c77_n17
noncomputable def o77_n18 : Array Oper := regOps c77_n18
noncomputable def c77_n19 : Code := kid 1 c77_n17
noncomputable def c77_n20 : Code := kid 0 c77_n19
noncomputable def c77_n21 : Code := kid 0 c77_n20
noncomputable def o77_n21 : Array Oper := regOps c77_n21
noncomputable def c77_n22 : Code := kid 1 c77_n20
noncomputable def c77_n23 : Code := kid 1 c77_n19
noncomputable def c77_n24 : Code := kid 1 c77_n13
noncomputable def o77_n24 : Array Oper := regOps c77_n24
noncomputable def c77_1_1 : Code := kid 1 c77_1
noncomputable def c77_1_1_0 : Code := kid 0 c77_1_1
noncomputable def o77_1_1_0 : Array Oper := regOps c77_1_1_0
noncomputable def c77_1_1_1 : Code := kid 1 c77_1_1
set_option maxHeartbeats 400000 in
theorem name_ok (l : Str) (w : World) (hl : l.length < 4611686018427387904) : Calls Tryz.prog 77 #[sv l] w (RetW [] w fun v _ => v = .bool (nameF l)) := by
 refine calls_of_S (n := 43) (c := c77) Tryz.func77 (by kernel_rfl) (by kernel_rfl) (Nat.le_of_ble_eq_true (by kernel_rfl)) ?_
 have hE0 : Eff [] w w := Eff.refl _ _
 refine S.seq (x := c77_0) (y := c77_1) (by kernel_rfl) ?_
 refine S.reg (ops := o77_0) (js := [0]) (by kernel_rfl) (by kernel_rfl) ?_
 refine L.runU [0] [] [(2, .bool false)] (by kernel_rfl) (by kernel_rfl) ?_
 refine L.done ?_
 show S _ _ _ c77_1 _ _ _ _
 refine S.seq (x := c77_1_0) (y := c77_1_1) (by kernel_rfl) ?_
 refine S.seq (x := c77_1_0_0) (y := c77_1_0_1) (by kernel_rfl) ?_
 refine S.reg (ops := o77_1_0_0) (js := [0, 1, 2, 3]) (by kernel_rfl) (by kernel_rfl) ?_
 refine L.runU [0] [1, 2, 3] [(5, sv l)] (by kernel_rfl) (by kernel_rfl) ?_
 refine L.bytes (e := 5) (u := .string) l (by kernel_rfl : lookAt _ _ _ _ = some ((Op.convert 9 128 (Operand.tmp 5)), some 6)) (by kernel_rfl) (by kernel_rfl) (by kernel_rfl) (by kernel_rfl) ?_
 intro b101 cap102 rest103 w104 hs105 hz106 E107 B108 hc109
 have hE110 := hE0.and0 E107
 have := E107.size
 refine L.runU [2, 3] [] [(7, .int .i64 (((l.length : Nat) : Int))), (8, .int .i64 0)] (by kernel_rfl) (by kernel_rfl) ?_
 refine L.done ?_
 show S _ _ _ c77_1_0_1 _ _ _ _
 refine S.block (id := 0) (x := c77_n6) (by kernel_rfl) ?_
 refine S.loop (x := c77_n7) (fun m σ' ds' w' => ∃ (k : Nat), m = l.length - k ∧ (k ≤ l.length) ∧ (∀ j, j < k → nameB l j = true) ∧ Blk w' b101 (l.map bv ++ rest103) 5 ∧ Eff [] w w' ∧ w104.heap.size ≤ w'.heap.size ∧ ds' = [] ∧ ∃ u, σ' = slots u [(0, sv l), (2, .bool false), (6, .slice (some ⟨b101, 0, none⟩) l.length cap102), (7, .int .i64 (((l.length : Nat) : Int))), (8, .int .i64 (((k : Nat) : Int)))]) (l.length - 0) (by kernel_rfl) ⟨0, rfl, (by omega), (by exact allI_none), B108, hE110, (Nat.le_refl _), rfl, _, Holds.eq (l := [(0, sv l), (2, .bool false), (6, .slice (some ⟨b101, 0, none⟩) l.length cap102), (7, .int .i64 (((l.length : Nat) : Int))), (8, .int .i64 0)]) ⟨by kernel_rfl, by kernel_rfl, by kernel_rfl, by kernel_rfl, by kernel_rfl, trivial⟩⟩ ?_
 rintro m112 σ' ds' w111 ⟨k, hm114, hk, ha, F115, hE116, hz117, rfl, u113, rfl⟩
 refine S.seq (x := c77_n8) (y := c77_n9) (by kernel_rfl) ?_
 refine S.reg (ops := o77_n8) (js := [0]) (by kernel_rfl) (by kernel_rfl) ?_
 refine L.runU [0] [] [(9, .bool (decide (((k : Nat) : Int) < ((l.length : Nat) : Int))))] (by kernel_rfl) (by kernel_rfl) ?_
 refine L.done ?_
 show S _ _ _ c77_n9 _ _ _ _
 refine S.seq (x := c77_n10) (y := c77_n13) (by kernel_rfl) ?_
 refine S.condP (((k : Nat) : Int) < ((l.length : Nat) : Int)) (o := (Operand.tmp 9)) (x := c77_n11) (y := c77_n12) (by kernel_rfl) (by kernel_rfl) (fun h118 => ?_) (fun h118 => ?_)
 ·refine S.skip (by kernel_rfl) ?_
  show S _ _ _ c77_n13 _ _ _ _
  refine S.seq (x := c77_n14) (y := c77_n24) (by kernel_rfl) ?_
  refine S.block (id := 1) (x := c77_n15) (by kernel_rfl) ?_
  refine S.seq (x := c77_n16) (y := c77_n17) (by kernel_rfl) ?_
  refine S.reg (ops := o77_n16) (js := [0, 1, 2, 3, 4]) (by kernel_rfl) (by kernel_rfl) ?_
  refine L.runU [0] [1, 2, 3, 4] [(10, .int .i64 (((k : Nat) : Int)))] (by kernel_rfl) (by kernel_rfl) ?_
  obtain ⟨x120, hx121⟩ : ∃ x, (l)[k]? = some x := ⟨_, List.getElem?_eq_getElem (by omega)⟩
  have A119 : CAt [] w111 ((⟨b101, 0, none⟩ : Addr).add k) [bv x120] := .ofByte F115 hx121
  have := x120.toNat_lt
  refine L.val (.pointer (some ((⟨b101, 0, none⟩ : Addr).add k))) (by kernel_rfl : lookAt _ _ _ _ = some ((Op.indexAddr 128 (Operand.tmp 6) (Operand.tmp 8)), some 11)) (by intro c e; cases e) (rx_indexAddr (e := 5) (sz := 1) (a := some ⟨b101, 0, none⟩) (p := (⟨b101, 0, none⟩ : Addr)) (len := l.length) (cap := cap102) (kk := .i64) (i := ((k : Nat) : Int)) k k (by kernel_rfl) (by kernel_rfl) (by kernel_rfl) (by kernel_rfl) (by kernel_rfl) (by omega) (by omega) (by omega)) ?_
  refine L.val (.int .u8 (x120.toNat : Int)) (by kernel_rfl : lookAt _ _ _ _ = some ((Op.load 5 (Operand.tmp 11)), some 12)) (by intro c e; cases e) (rx_load 0 (.int .u8 (x120.toNat : Int)) (A119.1) (by kernel_rfl) (by kernel_rfl)) ?_
  refine L.runU [3, 4] [] [(3, .int .i64 (((k : Nat) : Int))), (4, .int .u8 (x120.toNat : Int))] (by kernel_rfl) (by kernel_rfl) ?_
  refine L.done ?_
  show S _ _ _ c77_n17 _ _ _ _
  refine S.seq (x := c77_n18) (y := c77_n19) (by kernel_rfl) ?_
  refine S.reg (ops := o77_n18) (js := [0, 1, 2, 3, 4, 5, 6, 7, 8, 9, 10, 11, 12, 13, 14, 15, 16, 17, 18, 19, 20]) (by kernel_rfl) (by kernel_rfl) ?_
  refine L.runU [0] [1, 2, 3, 4, 5, 6, 7, 8, 9, 10, 11, 12, 13, 14, 15, 16, 17, 18, 19, 20] [(13, .int .u8 (x120.toNat : Int))] (by kernel_rfl) (by kernel_rfl) ?_
  refine L.call (f := 117) (by kernel_rfl : lookAt _ _ _ _ = some ((Op.call { callee := (Callee.value (Operand.func 117)), args := #[(Operand.tmp 13), (Operand.const (Value.int IntKind.u8 97)), (Operand.const (Value.int IntKind.u8 122))], argTypes := #[5, 5, 5] }), some 14)) e117 (by kernel_rfl) (within_ok x120 97 122 _) ?_
  rintro _ w123 E124 rfl
  have hE126 := hE116.and0 E124
  have := E124.size
  have B127 := F115.eff0 E124
  have A128 := A119.step same E124 no0
  refine L.runU [2, 3] [4, 5, 6, 7, 8, 9, 10, 11, 12, 13, 14, 15, 16, 17, 18, 19, 20] [(15, .bool (!(decide (97 ≤ (x120.toNat : Int)) && decide ((x120.toNat : Int) ≤ 122)))), (16, .bool (!(decide (97 ≤ (x120.toNat : Int)) && decide ((x120.toNat : Int) ≤ 122))))] (by kernel_rfl) (by kernel_rfl) ?_
  refine X.splitB (G := fun σ => L _ _ _ _ _ _ σ _ _) (!(decide (97 ≤ (x120.toNat : Int)) && decide ((x120.toNat : Int) ≤ 122))) 16 (by kernel_rfl) (fun h129 => ?_) (fun h129 => ?_)
  ·refine L.runU [4] [5, 6, 7, 8, 9, 10, 11, 12, 13, 14, 15, 16, 17, 18, 19, 20] [(17, .int .u8 (x120.toNat : Int))] (by kernel_rfl) (by kernel_rfl) ?_
   refine L.call (f := 117) (by kernel_rfl : lookAt _ _ _ _ = some ((Op.call { callee := (Callee.value (Operand.func 117)), args := #[(Operand.tmp 17), (Operand.const (Value.int IntKind.u8 65)), (Operand.const (Value.int IntKind.u8 90))], argTypes := #[5, 5, 5] }), some 18)) e117 (by kernel_rfl) (within_ok x120 65 90 _) ?_
   rintro _ w131 E132 rfl
   have hE134 := hE126.and0 E132
   have := E132.size
   have B135 := B127.eff0 E132
   have A136 := A128.step same E132 no0
   refine L.runU [6, 7, 8] [9, 10, 11, 12, 13, 14, 15, 16, 17, 18, 19, 20] [(19, .bool (!(decide (65 ≤ (x120.toNat : Int)) && decide ((x120.toNat : Int) ≤ 90)))), (20, .bool (!(decide (65 ≤ (x120.toNat : Int)) && decide ((x120.toNat : Int) ≤ 90)))), (21, .bool (!(decide (65 ≤ (x120.toNat : Int)) && decide ((x120.toNat : Int) ≤ 90))))] (by kernel_rfl) (by kernel_rfl) ?_
   refine X.splitB (G := fun σ => L _ _ _ _ _ _ σ _ _) (!(decide (65 ≤ (x120.toNat : Int)) && decide ((x120.toNat : Int) ≤ 90))) 21 (by kernel_rfl) (fun h137 => ?_) (fun h137 => ?_)
   ·refine L.runU [9, 10, 11] [12, 13, 14, 15, 16, 17, 18, 19, 20] [(22, .int .i64 (((k : Nat) : Int))), (23, .bool (decide (((k : Nat) : Int) = 0))), (24, .bool (decide (((k : Nat) : Int) = 0)))] (by kernel_rfl) (by kernel_rfl) ?_
    refine X.splitP (G := fun σ => L _ _ _ _ _ _ σ _ _) (((k : Nat) : Int) = 0) 24 (by kernel_rfl) (fun h138 => ?_) (fun h138 => ?_)
    ·refine L.runU [12, 13, 14, 15, 16, 17, 18, 19, 20] [] [(25, undef), (26, undef), (27, undef), (28, undef), (29, undef), (30, undef), (31, undef), (32, .bool true), (33, .bool true)] (by kernel_rfl) (by kernel_rfl) ?_
     refine L.done ?_
     show S _ _ _ c77_n19 _ _ _ _
     refine S.condT (o := (Operand.tmp 33)) (x := c77_n20) (y := c77_n23) (by kernel_rfl) (by kernel_rfl) ?_
     refine S.seq (x := c77_n21) (y := c77_n22) (by kernel_rfl) ?_
     refine S.reg (ops := o77_n21) (js := [0]) (by kernel_rfl) (by kernel_rfl) ?_
     refine L.runU [0] [] [(2, .bool false)] (by kernel_rfl) (by kernel_rfl) ?_
     refine L.done ?_
     show S _ _ _ c77_n22 _ _ _ _
     refine S.ret (by kernel_rfl) ?_
     show Leave _ _ _ _ _ _ _ _
     refine Leave.ret1 (x := .tmp 2) (.bool false) (by kernel_rfl) (.ofT (by kernel_rfl)) ?_
     refine ⟨_, rfl, hE134, ?_⟩
     first | exact bool_eq (by rw [nameF, allI_true ha (by omega)]; (first | rfl | (rw [Bool.eq_iff_iff]; simp only [lenIn, Bool.and_eq_true, Bool.or_eq_true, Bool.not_eq_true', decide_eq_true_eq, decide_eq_false_iff_not, Bool.and_true, Bool.true_and, Bool.and_false, Bool.false_and, Bool.or_true, Bool.true_or, Bool.or_false, Bool.false_or, Bool.not_true, Bool.not_false, Bool.false_eq_true, false_iff, iff_false, true_iff, iff_true, eq_self_iff_true, not_true_eq_false, not_false_eq_true]; omega) | (grind [lenIn]) | (simp [lenIn]; done) | (rw [Bool.eq_iff_iff]; simp [lenIn]; done) | (rw [Bool.eq_iff_iff]; simp [lenIn]; omega) | (simp_all [lenIn]; done) | (rw [Bool.eq_iff_iff]; simp_all [lenIn]; done) | (rw [Bool.eq_iff_iff]; simp_all [lenIn]; omega))) | exact bool_eq (by rw [nameF, allI_false (j := k) (by omega) (nameB_of ‹l[k]? = _› (by rw [Bool.eq_false_iff]; intro hc; simp only [letB, digB, nameB, nmB, Bool.and_eq_true, Bool.or_eq_true, Bool.not_eq_true', Bool.not_eq_false', ne_eq, Bool.and_eq_false_iff, Bool.or_eq_false_iff, decide_eq_true_eq, decide_eq_false_iff_not] at *; omega)), Bool.and_false])
    ·refine L.runU [12] [13, 14, 15, 16, 17, 18, 19, 20] [(25, .int .u8 (x120.toNat : Int))] (by kernel_rfl) (by kernel_rfl) ?_
     refine L.call (f := 117) (by kernel_rfl : lookAt _ _ _ _ = some ((Op.call { callee := (Callee.value (Operand.func 117)), args := #[(Operand.tmp 25), (Operand.const (Value.int IntKind.u8 48)), (Operand.const (Value.int IntKind.u8 57))], argTypes := #[5, 5, 5] }), some 26)) e117 (by kernel_rfl) (within_ok x120 48 57 _) ?_
     rintro _ w140 E141 rfl
     have hE143 := hE134.and0 E141
     have := E141.size
     have B144 := B135.eff0 E141
     have A145 := A136.step same E141 no0
     refine L.runU [14, 15] [16, 17, 18, 19, 20] [(27, .bool (!(decide (48 ≤ (x120.toNat : Int)) && decide ((x120.toNat : Int) ≤ 57)))), (28, .bool (!(decide (48 ≤ (x120.toNat : Int)) && decide ((x120.toNat : Int) ≤ 57))))] (by kernel_rfl) (by kernel_rfl) ?_
     refine X.splitB (G := fun σ => L _ _ _ _ _ _ σ _ _) (!(decide (48 ≤ (x120.toNat : Int)) && decide ((x120.toNat : Int) ≤ 57))) 28 (by kernel_rfl) (fun h146 => ?_) (fun h146 => ?_)
     ·refine L.runU [16, 17, 18, 19, 20] [] [(29, .int .u8 (x120.toNat : Int)), (30, .bool (!decide ((x120.toNat : Int) = 45))), (31, .bool (!decide ((x120.toNat : Int) = 45))), (32, .bool (!decide ((x120.toNat : Int) = 45))), (33, .bool (!decide ((x120.toNat : Int) = 45)))] (by kernel_rfl) (by kernel_rfl) ?_
      refine L.done ?_
      show S _ _ _ c77_n19 _ _ _ _
      refine S.condN ((x120.toNat : Int) = 45) (o := (Operand.tmp 33)) (x := c77_n20) (y := c77_n23) (by kernel_rfl) (by kernel_rfl) (fun h147 => ?_) (fun h147 => ?_)
      ·refine S.seq (x := c77_n21) (y := c77_n22) (by kernel_rfl) ?_
       refine S.reg (ops := o77_n21) (js := [0]) (by kernel_rfl) (by kernel_rfl) ?_
       refine L.runU [0] [] [(2, .bool false)] (by kernel_rfl) (by kernel_rfl) ?_
       refine L.done ?_
       show S _ _ _ c77_n22 _ _ _ _
       refine S.ret (by kernel_rfl) ?_
       show Leave _ _ _ _ _ _ _ _
       refine Leave.ret1 (x := .tmp 2) (.bool false) (by kernel_rfl) (.ofT (by kernel_rfl)) ?_
       refine ⟨_, rfl, hE143, ?_⟩
       first | exact bool_eq (by rw [nameF, allI_true ha (by omega)]; (first | rfl | (rw [Bool.eq_iff_iff]; simp only [lenIn, Bool.and_eq_true, Bool.or_eq_true, Bool.not_eq_true', decide_eq_true_eq, decide_eq_false_iff_not, Bool.and_true, Bool.true_and, Bool.and_false, Bool.false_and, Bool.or_true, Bool.true_or, Bool.or_false, Bool.false_or, Bool.not_true, Bool.not_false, Bool.false_eq_true, false_iff, iff_false, true_iff, iff_true, eq_self_iff_true, not_true_eq_false, not_false_eq_true]; omega) | (grind [lenIn]) | (simp [lenIn]; done) | (rw [Bool.eq_iff_iff]; simp [lenIn]; done) | (rw [Bool.eq_iff_iff]; simp [lenIn]; omega) | (simp_all [lenIn]; done) | (rw [Bool.eq_iff_iff]; simp_all [lenIn]; done) | (rw [Bool.eq_iff_iff]; simp_all [lenIn]; omega))) | exact bool_eq (by rw [nameF, allI_false (j := k) (by omega) (nameB_of ‹l[k]? = _› (by rw [Bool.eq_false_iff]; intro hc; simp only [letB, digB, nameB, nmB, Bool.and_eq_true, Bool.or_eq_true, Bool.not_eq_true', Bool.not_eq_false', ne_eq, Bool.and_eq_false_iff, Bool.or_eq_false_iff, decide_eq_true_eq, decide_eq_false_iff_not] at *; omega)), Bool.and_false])
      ·refine S.skip (by kernel_rfl) ?_
       show S _ _ _ c77_n24 _ _ _ _
       refine S.reg (ops := o77_n24) (js := [0, 1]) (by kernel_rfl) (by kernel_rfl) ?_
       refine L.runU [0] [1] [(34, .int .i64 (IntKind.i64.wrap (((k : Nat) : Int) + 1)))] (by kernel_rfl) (by kernel_rfl) ?_
       refine X.re64 (G := fun σ => L _ _ _ _ _ _ σ _ _) (d := 34) (((k : Nat) : Int) + 1) (((k + 1 : Nat) : Int)) (by kernel_rfl) (by omega) ?_
       refine L.runU [1] [] [(8, .int .i64 (((k + 1 : Nat) : Int)))] (by kernel_rfl) (by kernel_rfl) ?_
       refine L.done ?_
       show ∃ m', m' < _ ∧ _
       refine ⟨l.length - (k + 1), ?_, ⟨k + 1, rfl, (by omega), (by exact allI_snoc ha (nameB_of ‹l[k]? = _› (by simp only [letB, digB, nameB, nmB, Bool.and_eq_true, Bool.or_eq_true, Bool.not_eq_true', Bool.not_eq_false', ne_eq, Bool.and_eq_false_iff, Bool.or_eq_false_iff, decide_eq_true_eq, decide_eq_false_iff_not] at *; omega))), B144, hE143, (by omega), rfl, _, Holds.eq (l := [(0, sv l), (2, .bool false), (6, .slice (some ⟨b101, 0, none⟩) l.length cap102), (7, .int .i64 (((l.length : Nat) : Int))), (8, .int .i64 (((k + 1 : Nat) : Int)))]) ⟨by kernel_rfl, by kernel_rfl, by kernel_rfl, by kernel_rfl, by kernel_rfl, trivial⟩⟩⟩
       omega
     ·refine L.runU [16, 17, 18, 19, 20] [] [(29, undef), (30, undef), (31, .bool false), (32, .bool false), (33, .bool false)] (by kernel_rfl) (by kernel_rfl) ?_
      refine L.done ?_
      show S _ _ _ c77_n19 _ _ _ _
      refine S.condF (o := (Operand.tmp 33)) (x := c77_n20) (y := c77_n23) (by kernel_rfl) (by kernel_rfl) ?_
      refine S.skip (by kernel_rfl) ?_
      show S _ _ _ c77_n24 _ _ _ _
      refine S.reg (ops := o77_n24) (js := [0, 1]) (by kernel_rfl) (by kernel_rfl) ?_
      refine L.runU [0] [1] [(34, .int .i64 (IntKind.i64.wrap (((k : Nat) : Int) + 1)))] (by kernel_rfl) (by kernel_rfl) ?_
      refine X.re64 (G := fun σ => L _ _ _ _ _ _ σ _ _) (d := 34) (((k : Nat) : Int) + 1) (((k + 1 : Nat) : Int)) (by kernel_rfl) (by omega) ?_
      refine L.runU [1] [] [(8, .int .i64 (((k + 1 : Nat) : Int)))] (by kernel_rfl) (by kernel_rfl) ?_
      refine L.done ?_
      show ∃ m', m' < _ ∧ _
      refine ⟨l.length - (k + 1), ?_, ⟨k + 1, rfl, (by omega), (by exact allI_snoc ha (nameB_of ‹l[k]? = _› (by simp only [letB, digB, nameB, nmB, Bool.and_eq_true, Bool.or_eq_true, Bool.not_eq_true', Bool.not_eq_false', ne_eq, Bool.and_eq_false_iff, Bool.or_eq_false_iff, decide_eq_true_eq, decide_eq_false_iff_not] at *; omega))), B144, hE143, (by omega), rfl, _, Holds.eq (l := [(0, sv l), (2, .bool false), (6, .slice (some ⟨b101, 0, none⟩) l.length cap102), (7, .int .i64 (((l.length : Nat) : Int))), (8, .int .i64 (((k + 1 : Nat) : Int)))]) ⟨by kernel_rfl, by kernel_rfl, by kernel_rfl, by kernel_rfl, by kernel_rfl, trivial⟩⟩⟩
      omega
   ·refine L.runU [9, 10, 11, 12, 13, 14, 15, 16, 17, 18, 19, 20] [] [(22, undef), (23, undef), (24, undef), (25, undef), (26, undef), (27, undef), (28, undef), (29, undef), (30, undef), (31, undef), (32, undef), (33, .bool false)] (by kernel_rfl) (by kernel_rfl) ?_
    refine L.done ?_
    show S _ _ _ c77_n19 _ _ _ _
    refine S.condF (o := (Operand.tmp 33)) (x := c77_n20) (y := c77_n23) (by kernel_rfl) (by kernel_rfl) ?_
    refine S.skip (by kernel_rfl) ?_
    show S _ _ _ c77_n24 _ _ _ _
    refine S.reg (ops := o77_n24) (js := [0, 1]) (by kernel_rfl) (by kernel_rfl) ?_
    refine L.runU [0] [1] [(34, .int .i64 (IntKind.i64.wrap (((k : Nat) : Int) + 1)))] (by kernel_rfl) (by kernel_rfl) ?_
    refine X.re64 (G := fun σ => L _ _ _ _ _ _ σ _ _) (d := 34) (((k : Nat) : Int) + 1) (((k + 1 : Nat) : Int)) (by kernel_rfl) (by omega) ?_
    refine L.runU [1] [] [(8, .int .i64 (((k + 1 : Nat) : Int)))] (by kernel_rfl) (by kernel_rfl) ?_
    refine L.done ?_
    show ∃ m', m' < _ ∧ _
    refine ⟨l.length - (k + 1), ?_, ⟨k + 1, rfl, (by omega), (by exact allI_snoc ha (nameB_of ‹l[k]? = _› (by simp only [letB, digB, nameB, nmB, Bool.and_eq_true, Bool.or_eq_true, Bool.not_eq_true', Bool.not_eq_false', ne_eq, Bool.and_eq_false_iff, Bool.or_eq_false_iff, decide_eq_true_eq, decide_eq_false_iff_not] at *; omega))), B135, hE134, (by omega), rfl, _, Holds.eq (l := [(0, sv l), (2, .bool false), (6, .slice (some ⟨b101, 0, none⟩) l.length cap102), (7, .int .i64 (((l.length : Nat) : Int))), (8, .int .i64 (((k + 1 : Nat) : Int)))]) ⟨by kernel_rfl, by kernel_rfl, by kernel_rfl, by kernel_rfl, by kernel_rfl, trivial⟩⟩⟩
    omega
  ·refine L.runU [4, 5, 6, 7, 8, 9, 10, 11, 12, 13, 14, 15, 16, 17, 18, 19, 20] [] [(17, undef), (18, undef), (19, undef), (20, .bool false), (21, .bool false), (22, undef), (23, undef), (24, undef), (25, undef), (26, undef), (27, undef), (28, undef), (29, undef), (30, undef), (31, undef), (32, undef), (33, .bool false)] (by kernel_rfl) (by kernel_rfl) ?_
   refine L.done ?_
   show S _ _ _ c77_n19 _ _ _ _
   refine S.condF (o := (Operand.tmp 33)) (x := c77_n20) (y := c77_n23) (by kernel_rfl) (by kernel_rfl) ?_
   refine S.skip (by kernel_rfl) ?_
   show S _ _ _ c77_n24 _ _ _ _
   refine S.reg (ops := o77_n24) (js := [0, 1]) (by kernel_rfl) (by kernel_rfl) ?_
   refine L.runU [0] [1] [(34, .int .i64 (IntKind.i64.wrap (((k : Nat) : Int) + 1)))] (by kernel_rfl) (by kernel_rfl) ?_
   refine X.re64 (G := fun σ => L _ _ _ _ _ _ σ _ _) (d := 34) (((k : Nat) : Int) + 1) (((k + 1 : Nat) : Int)) (by kernel_rfl) (by omega) ?_
   refine L.runU [1] [] [(8, .int .i64 (((k + 1 : Nat) : Int)))] (by kernel_rfl) (by kernel_rfl) ?_
   refine L.done ?_
   show ∃ m', m' < _ ∧ _
   refine ⟨l.length - (k + 1), ?_, ⟨k + 1, rfl, (by omega), (by exact allI_snoc ha (nameB_of ‹l[k]? = _› (by simp only [letB, digB, nameB, nmB, Bool.and_eq_true, Bool.or_eq_true, Bool.not_eq_true', Bool.not_eq_false', ne_eq, Bool.and_eq_false_iff, Bool.or_eq_false_iff, decide_eq_true_eq, decide_eq_false_iff_not] at *; omega))), B127, hE126, (by omega), rfl, _, Holds.eq (l := [(0, sv l), (2, .bool false), (6, .slice (some ⟨b101, 0, none⟩) l.length cap102), (7, .int .i64 (((l.length : Nat) : Int))), (8, .int .i64 (((k + 1 : Nat) : Int)))]) ⟨by kernel_rfl, by kernel_rfl, by kernel_rfl, by kernel_rfl, by kernel_rfl, trivial⟩⟩⟩
   omega
 ·refine S.exit (id := 0) (by kernel_rfl) ?_
  show S _ _ _ c77_1_1 _ _ _ _
  refine S.seq (x := c77_1_1_0) (y := c77_1_1_1) (by kernel_rfl) ?_
  refine S.reg (ops := o77_1_1_0) (js := [0, 1, 2, 3, 4, 5, 6, 7, 8]) (by kernel_rfl) (by kernel_rfl) ?_
  refine L.runU [0, 1, 2, 3] [4, 5, 6, 7, 8] [(35, sv l), (36, .int .i64 (((l.length : Nat) : Int))), (37, .bool (decide (1 ≤ ((l.length : Nat) : Int)))), (38, .bool (decide (1 ≤ ((l.length : Nat) : Int))))] (by kernel_rfl) (by kernel_rfl) ?_
  refine X.splitP (G := fun σ => L _ _ _ _ _ _ σ _ _) (1 ≤ ((l.length : Nat) : Int)) 38 (by kernel_rfl) (fun h148 => ?_) (fun h148 => ?_)
  ·refine L.runU [4, 5, 6, 7, 8] [] [(39, sv l), (40, .int .i64 (((l.length : Nat) : Int))), (41, .bool (decide (((l.length : Nat) : Int) ≤ 64))), (42, .bool (decide (((l.length : Nat) : Int) ≤ 64))), (2, .bool (decide (((l.length : Nat) : Int) ≤ 64)))] (by kernel_rfl) (by kernel_rfl) ?_
   refine L.done ?_
   show S _ _ _ c77_1_1_1 _ _ _ _
   refine S.ret (by kernel_rfl) ?_
   show Leave _ _ _ _ _ _ _ _
   refine Leave.ret1 (x := .tmp 2) (.bool (decide (((l.length : Nat) : Int) ≤ 64))) (by kernel_rfl) (.ofT (by kernel_rfl)) ?_
   refine ⟨_, rfl, hE116, ?_⟩
   first | exact bool_eq (by rw [nameF, allI_true ha (by omega)]; (first | rfl | (rw [Bool.eq_iff_iff]; simp only [lenIn, Bool.and_eq_true, Bool.or_eq_true, Bool.not_eq_true', decide_eq_true_eq, decide_eq_false_iff_not, Bool.and_true, Bool.true_and, Bool.and_false, Bool.false_and, Bool.or_true, Bool.true_or, Bool.or_false, Bool.false_or, Bool.not_true, Bool.not_false, Bool.false_eq_true, false_iff, iff_false, true_iff, iff_true, eq_self_iff_true, not_true_eq_false, not_false_eq_true]; omega) | (grind [lenIn]) | (simp [lenIn]; done) | (rw [Bool.eq_iff_iff]; simp [lenIn]; done) | (rw [Bool.eq_iff_iff]; simp [lenIn]; omega) | (simp_all [lenIn]; done) | (rw [Bool.eq_iff_iff]; simp_all [lenIn]; done) | (rw [Bool.eq_iff_iff]; simp_all [lenIn]; omega))) | exact bool_eq (by rw [nameF, allI_false (j := k) (by omega) (nameB_of ‹l[k]? = _› (by rw [Bool.eq_false_iff]; intro hc; simp only [letB, digB, nameB, nmB, Bool.and_eq_true, Bool.or_eq_true, Bool.not_eq_true', Bool.not_eq_false', ne_eq, Bool.and_eq_false_iff, Bool.or_eq_false_iff, decide_eq_true_eq, decide_eq_false_iff_not] at *; omega)), Bool.and_false])
  ·refine L.runU [4, 5, 6, 7, 8] [] [(39, undef), (40, undef), (41, undef), (42, .bool false), (2, .bool false)] (by kernel_rfl) (by kernel_rfl) ?_
   refine L.done ?_
   show S _ _ _ c77_1_1_1 _ _ _ _
   refine S.ret (by kernel_rfl) ?_
   show Leave _ _ _ _ _ _ _ _
   refine Leave.ret1 (x := .tmp 2) (.bool false) (by kernel_rfl) (.ofT (by kernel_rfl)) ?_
   refine ⟨_, rfl, hE116, ?_⟩
   first | exact bool_eq (by rw [nameF, allI_true ha (by omega)]; (first | rfl | (rw [Bool.eq_iff_iff]; simp only [lenIn, Bool.and_eq_true, Bool.or_eq_true, Bool.not_eq_true', decide_eq_true_eq, decide_eq_false_iff_not, Bool.and_true, Bool.true_and, Bool.and_false, Bool.false_and, Bool.or_true, Bool.true_or, Bool.or_false, Bool.false_or, Bool.not_true, Bool.not_false, Bool.false_eq_true, false_iff, iff_false, true_iff, iff_true, eq_self_iff_true, not_true_eq_false, not_false_eq_true]; omega) | (grind [lenIn]) | (simp [lenIn]; done) | (rw [Bool.eq_iff_iff]; simp [lenIn]; done) | (rw [Bool.eq_iff_iff]; simp [lenIn]; omega) | (simp_all [lenIn]; done) | (rw [Bool.eq_iff_iff]; simp_all [lenIn]; done) | (rw [Bool.eq_iff_iff]; simp_all [lenIn]; omega))) | exact bool_eq (by rw [nameF, allI_false (j := k) (by omega) (nameB_of ‹l[k]? = _› (by rw [Bool.eq_false_iff]; intro hc; simp only [letB, digB, nameB, nmB, Bool.and_eq_true, Bool.or_eq_true, Bool.not_eq_true', Bool.not_eq_false', ne_eq, Bool.and_eq_false_iff, Bool.or_eq_false_iff, decide_eq_true_eq, decide_eq_false_iff_not] at *; omega)), Bool.and_false])
noncomputable def c78 : Code := bodyOf Tryz.f78
noncomputable def c78_0 : Code := kid 0 c78
noncomputable def o78_0 : Array Oper := regOps c78_0
noncomputable def c78_1 : Code := kid 1 c78
noncomputable def c78_1_0 : Code := kid 0 c78_1
noncomputable def o78_1_0 : Array Oper := regOps c78_1_0
noncomputable def c78_1_1 : Code := kid 1 c78_1
noncomputable def c78_1_1_0 : Code := kid 0 c78_1_1
noncomputable def c78_n6 : Code := kid 0 c78_1_1_0
noncomputable def o78_n6 : Array Oper := regOps c78_n6
noncomputable def c78_n7 : Code := kid 1 c78_1_1_0
noncomputable def c78_n8 : Code := kid 0 c78_n7
noncomputable def c78_n9 : Code := kid 0 c78_n8
noncomputable def c78_n10 : Code := kid 0 c78_n9
noncomputable def o78_n10 : Array Oper := regOps c78_n10
noncomputable def c78_n11 : Code := kid 1 c78_n9
noncomputable def c78_n12 : Code := kid 0 c78_n11
noncomputable def c78_n13 : Code := kid 0 c78_n12
noncomputable def c78_n14 : Code := kid 1 c78_n12
noncomputable def c78_n15 : Code := kid 1 c78_n11
noncomputable def c78_n16 : Code := kid 0 c78_n15
noncomputable def c78_n17 : Code := kid 0 c78_n16
noncomputable def c78_n18 : Code := kid 0 c78_n17
noncomputable def o78_n18 : Array Oper := regOps c78_n18
noncomputable def c78_n19 : Code := kid 1 c78_n17
noncomputable def c78_n20 : Code := kid 0 c78_n19
noncomputable def o78_n20 : Array Oper := regOps c78_n20
noncomputable def c78_n21 : Code := kid 1 c78_n19
noncomputable def c78_n22 : Code := kid 0 c78_n21
noncomputable def o78_n22 : Array Oper := regOps c78_n22
noncomputable def c78_n23 : Code := kid 1 c78_n21
noncomputable def c78_n24 : Code := kid 1 c78_n15
noncomputable def o78_n24 : Array Oper := regOps c78_n24
noncomputable def c78_1_1_1 : Code := kid 1 c78_1_1
noncomputable def c78_n26 : Code := kid 0 c78_1_1_1
noncomputable def o78_n26 : Array Oper := regOps c78_n26
noncomputable def c78_n27 : Code := kid 1 c78_1_1_1
set_option maxHeartbeats 400000 in
theorem small_ok (l : Str) (w : World) (hl : l.length < 4611686018427387904) : Calls Tryz.prog 78 #[sv l] w (RetW [] w fun v _ => v = sv (smallF l)) := by
 refine calls_of_S (n := 30) (c := c78) Tryz.func78 (by kernel_rfl) (by kernel_rfl) (Nat.le_of_ble_eq_true (by kernel_rfl)) ?_
 have hE0 : Eff [] w w := Eff.refl _ _
 refine S.seq (x := c78_0) (y := c78_1) (by kernel_rfl) ?_
 refine S.reg (ops := o78_0) (js := [0]) (by kernel_rfl) (by kernel_rfl) ?_
 refine L.runU [0] [] [(2, sv [])] (by kernel_rfl) (by kernel_rfl) ?_
 refine L.done ?_
 show S _ _ _ c78_1 _ _ _ _
 refine S.seq (x := c78_1_0) (y := c78_1_1) (by kernel_rfl) ?_
 refine S.reg (ops := o78_1_0) (js := [0, 1, 2]) (by kernel_rfl) (by kernel_rfl) ?_
 refine L.runU [0] [1, 2] [(6, sv l)] (by kernel_rfl) (by kernel_rfl) ?_
 refine L.bytes (e := 5) (u := .string) l (by kernel_rfl : lookAt _ _ _ _ = some ((Op.convert 9 128 (Operand.tmp 6)), some 7)) (by kernel_rfl) (by kernel_rfl) (by kernel_rfl) (by kernel_rfl) ?_
 intro b101 cap102 rest103 w104 hs105 hz106 E107 B108 hc109
 have hE110 := hE0.and0 E107
 have := E107.size
 refine L.runU [2] [] [(3, .slice (some ⟨b101, 0, none⟩) l.length cap102)] (by kernel_rfl) (by kernel_rfl) ?_
 refine L.done ?_
 show S _ _ _ c78_1_1 _ _ _ _
 refine S.seq (x := c78_1_1_0) (y := c78_1_1_1) (by kernel_rfl) ?_
 refine S.seq (x := c78_n6) (y := c78_n7) (by kernel_rfl) ?_
 refine S.reg (ops := o78_n6) (js := [0, 1, 2]) (by kernel_rfl) (by kernel_rfl) ?_
 refine L.runU [0, 1, 2] [] [(8, .slice (some ⟨b101, 0, none⟩) l.length cap102), (9, .int .i64 (((l.length : Nat) : Int))), (10, .int .i64 0)] (by kernel_rfl) (by kernel_rfl) ?_
 refine L.done ?_
 show S _ _ _ c78_n7 _ _ _ _
 refine S.block (id := 0) (x := c78_n8) (by kernel_rfl) ?_
 refine S.loop (x := c78_n9) (fun m σ' ds' w' => ∃ (k : Nat) (l2 : Str), m = l.length - k ∧ (k ≤ l.length) ∧ (l2 = (l.take k).map smallB ++ l.drop k) ∧ (l2.length = l.length) ∧ Blk w' b101 (l2.map bv ++ rest103) 5 ∧ Eff [] w w' ∧ w104.heap.size ≤ w'.heap.size ∧ ds' = [] ∧ ∃ u, σ' = slots u [(2, sv []), (3, .slice (some ⟨b101, 0, none⟩) l.length cap102), (8, .slice (some ⟨b101, 0, none⟩) l.length cap102), (9, .int .i64 (((l.length : Nat) : Int))), (10, .int .i64 (((k : Nat) : Int)))]) (l.length - 0) (by kernel_rfl) ⟨0, l, rfl, (by omega), (by rfl), (by rfl), B108, hE110, (Nat.le_refl _), rfl, _, Holds.eq (l := [(2, sv []), (3, .slice (some ⟨b101, 0, none⟩) l.length cap102), (8, .slice (some ⟨b101, 0, none⟩) l.length cap102), (9, .int .i64 (((l.length : Nat) : Int))), (10, .int .i64 0)]) ⟨by kernel_rfl, by kernel_rfl, by kernel_rfl, by kernel_rfl, by kernel_rfl, trivial⟩⟩ ?_
 rintro m112 σ' ds' w111 ⟨k, l2, hm114, hk, h2, hl2, F115, hE116, hz117, rfl, u113, rfl⟩
 refine S.seq (x := c78_n10) (y := c78_n11) (by kernel_rfl) ?_
 refine S.reg (ops := o78_n10) (js := [0]) (by kernel_rfl) (by kernel_rfl) ?_
 refine L.runU [0] [] [(11, .bool (decide (((k : Nat) : Int) < ((l.length : Nat) : Int))))] (by kernel_rfl) (by kernel_rfl) ?_
 refine L.done ?_
 show S _ _ _ c78_n11 _ _ _ _
 refine S.seq (x := c78_n12) (y := c78_n15) (by kernel_rfl) ?_
 refine S.condP (((k : Nat) : Int) < ((l.length : Nat) : Int)) (o := (Operand.tmp 11)) (x := c78_n13) (y := c78_n14) (by kernel_rfl) (by kernel_rfl) (fun h118 => ?_) (fun h118 => ?_)
 ·refine S.skip (by kernel_rfl) ?_
  show S _ _ _ c78_n15 _ _ _ _
  refine S.seq (x := c78_n16) (y := c78_n24) (by kernel_rfl) ?_
  refine S.block (id := 1) (x := c78_n17) (by kernel_rfl) ?_
  refine S.seq (x := c78_n18) (y := c78_n19) (by kernel_rfl) ?_
  refine S.reg (ops := o78_n18) (js := [0, 1, 2, 3, 4]) (by kernel_rfl) (by kernel_rfl) ?_
  refine L.runU [0] [1, 2, 3, 4] [(12, .int .i64 (((k : Nat) : Int)))] (by kernel_rfl) (by kernel_rfl) ?_
  obtain ⟨x120, hx121⟩ : ∃ x, (l2)[k]? = some x := ⟨_, List.getElem?_eq_getElem (by omega)⟩
  have A119 : CAt [] w111 ((⟨b101, 0, none⟩ : Addr).add k) [bv x120] := .ofByte F115 hx121
  have := x120.toNat_lt
  refine L.val (.pointer (some ((⟨b101, 0, none⟩ : Addr).add k))) (by kernel_rfl : lookAt _ _ _ _ = some ((Op.indexAddr 128 (Operand.tmp 8) (Operand.tmp 10)), some 13)) (by intro c e; cases e) (rx_indexAddr (e := 5) (sz := 1) (a := some ⟨b101, 0, none⟩) (p := (⟨b101, 0, none⟩ : Addr)) (len := l.length) (cap := cap102) (kk := .i64) (i := ((k : Nat) : Int)) k k (by kernel_rfl) (by kernel_rfl) (by kernel_rfl) (by kernel_rfl) (by kernel_rfl) (by omega) (by omega) (by omega)) ?_
  refine L.val (.int .u8 (x120.toNat : Int)) (by kernel_rfl : lookAt _ _ _ _ = some ((Op.load 5 (Operand.tmp 13)), some 14)) (by intro c e; cases e) (rx_load 0 (.int .u8 (x120.toNat : Int)) (A119.1) (by kernel_rfl) (by kernel_rfl)) ?_
  refine L.runU [3, 4] [] [(4, .int .i64 (((k : Nat) : Int))), (5, .int .u8 (x120.toNat : Int))] (by kernel_rfl) (by kernel_rfl) ?_
  refine L.done ?_
  show S _ _ _ c78_n19 _ _ _ _
  refine S.seq (x := c78_n20) (y := c78_n21) (by kernel_rfl) ?_
  refine S.reg (ops := o78_n20) (js := [0, 1, 2, 3, 4, 5]) (by kernel_rfl) (by kernel_rfl) ?_
  refine L.runU [0, 1, 2] [3, 4, 5] [(15, .int .u8 (x120.toNat : Int)), (16, .bool (decide (65 ≤ (x120.toNat : Int)))), (17, .bool (decide (65 ≤ (x120.toNat : Int))))] (by kernel_rfl) (by kernel_rfl) ?_
  refine X.splitP (G := fun σ => L _ _ _ _ _ _ σ _ _) (65 ≤ (x120.toNat : Int)) 17 (by kernel_rfl) (fun h122 => ?_) (fun h122 => ?_)
  ·refine L.runU [3, 4, 5] [] [(18, .int .u8 (x120.toNat : Int)), (19, .bool (decide ((x120.toNat : Int) ≤ 90))), (20, .bool (decide ((x120.toNat : Int) ≤ 90)))] (by kernel_rfl) (by kernel_rfl) ?_
   refine L.done ?_
   show S _ _ _ c78_n21 _ _ _ _
   refine S.condP ((x120.toNat : Int) ≤ 90) (o := (Operand.tmp 20)) (x := c78_n22) (y := c78_n23) (by kernel_rfl) (by kernel_rfl) (fun h123 => ?_) (fun h123 => ?_)
   ·refine S.reg (ops := o78_n22) (js := [0, 1, 2, 3, 4, 5, 6]) (by kernel_rfl) (by kernel_rfl) ?_
    refine L.runU [0, 1, 2, 3] [4, 5, 6] [(21, .slice (some ⟨b101, 0, none⟩) l.length cap102), (22, .int .i64 (((k : Nat) : Int))), (23, .int .u8 (x120.toNat : Int)), (24, .int .u8 (IntKind.u8.wrap ((x120.toNat : Int) + 97)))] (by kernel_rfl) (by kernel_rfl) ?_
    refine X.re8 (G := fun σ => L _ _ _ _ _ _ σ _ _) (d := 24) ((x120.toNat : Int) + 97) ((x120.toNat : Int) + 97) (by kernel_rfl) (by omega) ?_
    refine L.runU [4] [5, 6] [(25, .int .u8 (IntKind.u8.wrap ((x120.toNat : Int) + 97 - 65)))] (by kernel_rfl) (by kernel_rfl) ?_
    refine X.re8 (G := fun σ => L _ _ _ _ _ _ σ _ _) (d := 25) ((x120.toNat : Int) + 97 - 65) ((x120.toNat : Int) + 97 - 65) (by kernel_rfl) (by omega) ?_
    have A124 : CAt [] w111 ((⟨b101, 0, none⟩ : Addr).add k) [bv x120] := .ofByte F115 hx121
    have := x120.toNat_lt
    refine L.val (.pointer (some ((⟨b101, 0, none⟩ : Addr).add k))) (by kernel_rfl : lookAt _ _ _ _ = some ((Op.indexAddr 128 (Operand.tmp 21) (Operand.tmp 22)), some 26)) (by intro c e; cases e) (rx_indexAddr (e := 5) (sz := 1) (a := some ⟨b101, 0, none⟩) (p := (⟨b101, 0, none⟩ : Addr)) (len := l.length) (cap := cap102) (kk := .i64) (i := ((k : Nat) : Int)) k k (by kernel_rfl) (by kernel_rfl) (by kernel_rfl) (by kernel_rfl) (by kernel_rfl) (by omega) (by omega) (by omega)) ?_
    have e129 : (.int .u8 ((x120.toNat : Int) + 97 - 65) : Value) = bv (UInt8.ofNat ((x120.toNat : Int) + 97 - 65).toNat) := by have h0 := ((byte_mk (by omega)) : Kd.byte.R [] w111 [.int .u8 ((x120.toNat : Int) + 97 - 65)] (UInt8.ofNat ((x120.toNat : Int) + 97 - 65).toNat)); simpa [Kd.byte] using h0
    refine L.storeArr (off := 0) k (.int .u8 ((x120.toNat : Int) + 97 - 65)) (by kernel_rfl : lookAt _ _ _ _ = some ((Op.store 5 (Operand.tmp 26) (Operand.tmp 25)), none)) (by kernel_rfl) F115 (by kernel_rfl) (by kernel_rfl) (by simp; omega) (by kernel_rfl) ?_
    intro w125 E126 hz127 B128
    rw [Nat.zero_add, e129, set_bytes (by omega)] at B128
    have hE130 := hE116.and1 E126 (by omega)
    have := E126.size
    refine L.done ?_
    show S _ _ _ c78_n24 _ _ _ _
    refine S.reg (ops := o78_n24) (js := [0, 1]) (by kernel_rfl) (by kernel_rfl) ?_
    refine L.runU [0] [1] [(27, .int .i64 (IntKind.i64.wrap (((k : Nat) : Int) + 1)))] (by kernel_rfl) (by kernel_rfl) ?_
    refine X.re64 (G := fun σ => L _ _ _ _ _ _ σ _ _) (d := 27) (((k : Nat) : Int) + 1) (((k + 1 : Nat) : Int)) (by kernel_rfl) (by omega) ?_
    refine L.runU [1] [] [(10, .int .i64 (((k + 1 : Nat) : Int)))] (by kernel_rfl) (by kernel_rfl) ?_
    refine L.done ?_
    show ∃ m', m' < _ ∧ _
    refine ⟨l.length - (k + 1), ?_, ⟨k + 1, l2.set k (UInt8.ofNat ((x120.toNat : Int) + 97 - 65).toNat), rfl, (by omega), (by first | exact small_set h2 (by omega) ‹l2[k]? = _› (smallB_yes (by omega) (by omega) (by omega)) | exact small_skip h2 (by omega) ‹l2[k]? = _› (smallB_no (by omega))), (by first | exact hl2 | (simp; exact hl2)), B128, hE130, (by omega), rfl, _, Holds.eq (l := [(2, sv []), (3, .slice (some ⟨b101, 0, none⟩) l.length cap102), (8, .slice (some ⟨b101, 0, none⟩) l.length cap102), (9, .int .i64 (((l.length : Nat) : Int))), (10, .int .i64 (((k + 1 : Nat) : Int)))]) ⟨by kernel_rfl, by kernel_rfl, by kernel_rfl, by kernel_rfl, by kernel_rfl, trivial⟩⟩⟩
    omega
   ·refine S.skip (by kernel_rfl) ?_
    show S _ _ _ c78_n24 _ _ _ _
    refine S.reg (ops := o78_n24) (js := [0, 1]) (by kernel_rfl) (by kernel_rfl) ?_
    refine L.runU [0] [1] [(27, .int .i64 (IntKind.i64.wrap (((k : Nat) : Int) + 1)))] (by kernel_rfl) (by kernel_rfl) ?_
    refine X.re64 (G := fun σ => L _ _ _ _ _ _ σ _ _) (d := 27) (((k : Nat) : Int) + 1) (((k + 1 : Nat) : Int)) (by kernel_rfl) (by omega) ?_
    refine L.runU [1] [] [(10, .int .i64 (((k + 1 : Nat) : Int)))] (by kernel_rfl) (by kernel_rfl) ?_
    refine L.done ?_
    show ∃ m', m' < _ ∧ _
    refine ⟨l.length - (k + 1), ?_, ⟨k + 1, l2, rfl, (by omega), (by first | exact small_set h2 (by omega) ‹l2[k]? = _› (smallB_yes (by omega) (by omega) (by omega)) | exact small_skip h2 (by omega) ‹l2[k]? = _› (smallB_no (by omega))), (by first | exact hl2 | (simp; exact hl2)), F115, hE116, (by omega), rfl, _, Holds.eq (l := [(2, sv []), (3, .slice (some ⟨b101, 0, none⟩) l.length cap102), (8, .slice (some ⟨b101, 0, none⟩) l.length cap102), (9, .int .i64 (((l.length : Nat) : Int))), (10, .int .i64 (((k + 1 : Nat) : Int)))]) ⟨by kernel_rfl, by kernel_rfl, by kernel_rfl, by kernel_rfl, by kernel_rfl, trivial⟩⟩⟩
    omega
  ·refine L.runU [3, 4, 5] [] [(18, undef), (19, undef), (20, .bool false)] (by kernel_rfl) (by kernel_rfl) ?_
   refine L.done ?_
   show S _ _ _ c78_n21 _ _ _ _
   refine S.condF (o := (Operand.tmp 20)) (x := c78_n22) (y := c78_n23) (by kernel_rfl) (by kernel_rfl) ?_
   refine S.skip (by kernel_rfl) ?_
   show S _ _ _ c78_n24 _ _ _ _
   refine S.reg (ops := o78_n24) (js := [0, 1]) (by kernel_rfl) (by kernel_rfl) ?_
   refine L.runU [0] [1] [(27, .int .i64 (IntKind.i64.wrap (((k : Nat) : Int) + 1)))] (by kernel_rfl) (by kernel_rfl) ?_
   refine X.re64 (G := fun σ => L _ _ _ _ _ _ σ _ _) (d := 27) (((k : Nat) : Int) + 1) (((k + 1 : Nat) : Int)) (by kernel_rfl) (by omega) ?_
   refine L.runU [1] [] [(10, .int .i64 (((k + 1 : Nat) : Int)))] (by kernel_rfl) (by kernel_rfl) ?_
   refine L.done ?_
   show ∃ m', m' < _ ∧ _
   refine ⟨l.length - (k + 1), ?_, ⟨k + 1, l2, rfl, (by omega), (by first | exact small_set h2 (by omega) ‹l2[k]? = _› (smallB_yes (by omega) (by omega) (by omega)) | exact small_skip h2 (by omega) ‹l2[k]? = _› (smallB_no (by omega))), (by first | exact hl2 | (simp; exact hl2)), F115, hE116, (by omega), rfl, _, Holds.eq (l := [(2, sv []), (3, .slice (some ⟨b101, 0, none⟩) l.length cap102), (8, .slice (some ⟨b101, 0, none⟩) l.length cap102), (9, .int .i64 (((l.length : Nat) : Int))), (10, .int .i64 (((k + 1 : Nat) : Int)))]) ⟨by kernel_rfl, by kernel_rfl, by kernel_rfl, by kernel_rfl, by kernel_rfl, trivial⟩⟩⟩
   omega
 ·refine S.exit (id := 0) (by kernel_rfl) ?_
  show S _ _ _ c78_1_1_1 _ _ _ _
  refine S.seq (x := c78_n26) (y := c78_n27) (by kernel_rfl) ?_
  refine S.reg (ops := o78_n26) (js := [0, 1, 2]) (by kernel_rfl) (by kernel_rfl) ?_
  refine L.runU [0] [1, 2] [(28, .slice (some ⟨b101, 0, none⟩) l.length cap102)] (by kernel_rfl) (by kernel_rfl) ?_
  refine L.val (sv l2) (by kernel_rfl : lookAt _ _ _ _ = some ((Op.convert 128 9 (Operand.tmp 28)), some 29)) (by intro c e; cases e) (rx_bytesStr (e := 5) (p := ⟨b101, 0, none⟩) (len := l.length) (cap := cap102) l2 (by kernel_rfl) (by kernel_rfl) (by kernel_rfl) (by kernel_rfl) (by omega) (F115).front) ?_
  refine L.runU [2] [] [(2, sv l2)] (by kernel_rfl) (by kernel_rfl) ?_
  refine L.done ?_
  show S _ _ _ c78_n27 _ _ _ _
  refine S.ret (by kernel_rfl) ?_
  show Leave _ _ _ _ _ _ _ _
  refine Leave.ret1 (x := .tmp 2) (sv l2) (by kernel_rfl) (.ofT (by kernel_rfl)) ?_
  refine ⟨_, rfl, hE116, ?_⟩
  exact congrArg sv (small_end h2 (by omega))
end Go.Proofs.YtjleeadiadpiaaaGreatDoor
namespace Go.Proofs.YtjleeadiadpiaaaGreatDoor
open Go Go.Fx Go.RowKit
end Go.Proofs.YtjleeadiadpiaaaGreatDoor
