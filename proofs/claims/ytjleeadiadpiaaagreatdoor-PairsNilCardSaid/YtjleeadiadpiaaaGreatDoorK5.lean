import Derived.Test.YtjleeadiadpiaaaGreatDoorK4
set_option linter.unusedVariables false
set_option linter.unusedSimpArgs false
set_option maxRecDepth 10000
namespace Go.Proofs.YtjleeadiadpiaaaGreatDoor
open Go Go.Fx Go.RowKit
def signsL : List (UInt8 × Bool) := [(44, true), (43, true), (34, true), (92, true), (60, true), (62, true), (59, true), (61, true)]
theorem signs_true {x : UInt8} {y : Bool} (h : mget signsL x = some y) : y = true := by
 obtain ⟨p, hp, rfl⟩ := Option.map_eq_some_iff.1 h
 have := List.mem_of_find?_eq_some hp
 simp only [signsL, List.mem_cons, List.not_mem_nil, or_false] at this
 rcases this with rfl | rfl | rfl | rfl | rfl | rfl | rfl | rfl <;> rfl
theorem signs_flat {M : List Nat} {w : World} {b : Nat} {M' : List Nat} (h : MapIs Key.u8 Kd.bool false M w b signsL) : MapIs Key.u8 Kd.bool false M' w b signsL := by
 obtain ⟨es, c, h1, h2, h3, rest⟩ := h
 exact ⟨es, c, h1, h2, fun i e p hi hp => (h3 i e p hi hp), rest⟩
def signB (x : UInt8) : Bool := (mget signsL x).isSome
def hexD (n : Nat) : UInt8 := ([48, 49, 50, 51, 52, 53, 54, 55, 56, 57, 97, 98, 99, 100, 101, 102] : Str).getD n 0
def escB (n j : Nat) (x : UInt8) : Str := if x.toNat < 32 ∨ 126 < x.toNat then [92, hexD (x.toNat / 16), hexD (x.toNat % 16)] else if signB x = true ∨ (j = 0 ∧ (x.toNat = 32 ∨ x.toNat = 35)) ∨ (j + 1 = n ∧ x.toNat = 32) then [92, x] else [x]
def valT (l : Str) (k : Nat) : Str := ((List.range k).map fun j => escB l.length j (l.getD j 0)).flatten
theorem valT_snoc {l o ys : Str} {k : Nat} {x : UInt8} (h : o = valT l k) (hx : l[k]? = some x) (he : escB l.length k x = ys) : o ++ ys = valT l (k + 1) := by
 rw [h, valT, valT, List.range_succ, List.map_append, List.flatten_append]
 simp only [List.map_cons, List.map_nil, List.flatten_cons, List.flatten_nil, List.append_nil, getD_of hx, he]
noncomputable def c125 : Code := bodyOf Tryz.f125
noncomputable def c125_0 : Code := kid 0 c125
noncomputable def o125_0 : Array Oper := regOps c125_0
noncomputable def c125_1 : Code := kid 1 c125
noncomputable def c125_1_0 : Code := kid 0 c125_1
noncomputable def o125_1_0 : Array Oper := regOps c125_1_0
noncomputable def c125_1_1 : Code := kid 1 c125_1
set_option maxHeartbeats 400000 in
theorem signs_ok  (w : World)  : Calls Tryz.prog 125 #[] w (RetW [] w fun v w' => ∃ b, v = .map (some b) ∧ (∀ M, MapIs Key.u8 Kd.bool false M w' b signsL) ∧ w.heap.size ≤ b) := by
 refine calls_of_S (n := 3) (c := c125) Tryz.func125 (by kernel_rfl) (by kernel_rfl) (Nat.le_of_ble_eq_true (by kernel_rfl)) ?_
 have hE0 : Eff [] w w := Eff.refl _ _
 refine S.seq (x := c125_0) (y := c125_1) (by kernel_rfl) ?_
 refine S.reg (ops := o125_0) (js := [0]) (by kernel_rfl) (by kernel_rfl) ?_
 refine L.runU [0] [] [(0, .map none)] (by kernel_rfl) (by kernel_rfl) ?_
 refine L.done ?_
 show S _ _ _ c125_1 _ _ _ _
 refine S.seq (x := c125_1_0) (y := c125_1_1) (by kernel_rfl) ?_
 refine S.reg (ops := o125_1_0) (js := [0, 1, 2, 3, 4, 5, 6, 7, 8, 9, 10]) (by kernel_rfl) (by kernel_rfl) ?_
 refine L.makeMap Key.u8 Kd.bool false ([]) (by kernel_rfl : lookAt _ _ _ _ = some ((Op.makeMap 180 Option.none), some 1)) ?_
 intro b101 w102 hs103 hz104 E105 Q106
 have hE108 := hE0.and0 E105
 have := E105.size
 have hM109 : Mok ([b101] ++ []) w102 := (Mok.nil _).step E105 (nNew (flt1 (b := b101) (by omega)) same)
 have Q107 : MapIs Key.u8 Kd.bool false ([b101] ++ []) w102 b101 [] := Q106.empty
 refine L.insert (key := Key.u8) (K := Kd.bool) (agg := false) (M := [b101] ++ []) (b := b101) (kt := 5) (et := 4) (kx := (44 : UInt8)) (y := true) (cs := [.bool true]) (by kernel_rfl : lookAt _ _ _ _ = some ((Op.insert 180 (Operand.tmp 1) (Operand.const (Value.int IntKind.u8 44)) (Operand.const (Value.bool Bool.true))), none)) (by kernel_rfl) (by kernel_rfl) (by kernel_rfl) (by kernel_rfl) (by kernel_rfl) Q107 (by simp [*]) rfl ?_
 intro w110 E111 hz112 Q113
 have hE114 := hE108.and1 E111 (by omega)
 have := E111.size
 have hM115 := hM109.eff E111
 refine L.insert (key := Key.u8) (K := Kd.bool) (agg := false) (M := [b101] ++ []) (b := b101) (kt := 5) (et := 4) (kx := (43 : UInt8)) (y := true) (cs := [.bool true]) (by kernel_rfl : lookAt _ _ _ _ = some ((Op.insert 180 (Operand.tmp 1) (Operand.const (Value.int IntKind.u8 43)) (Operand.const (Value.bool Bool.true))), none)) (by kernel_rfl) (by kernel_rfl) (by kernel_rfl) (by kernel_rfl) (by kernel_rfl) Q113 (by simp [*]) rfl ?_
 intro w116 E117 hz118 Q119
 have hE120 := hE114.and1 E117 (by omega)
 have := E117.size
 have hM121 := hM115.eff E117
 refine L.insert (key := Key.u8) (K := Kd.bool) (agg := false) (M := [b101] ++ []) (b := b101) (kt := 5) (et := 4) (kx := (34 : UInt8)) (y := true) (cs := [.bool true]) (by kernel_rfl : lookAt _ _ _ _ = some ((Op.insert 180 (Operand.tmp 1) (Operand.const (Value.int IntKind.u8 34)) (Operand.const (Value.bool Bool.true))), none)) (by kernel_rfl) (by kernel_rfl) (by kernel_rfl) (by kernel_rfl) (by kernel_rfl) Q119 (by simp [*]) rfl ?_
 intro w122 E123 hz124 Q125
 have hE126 := hE120.and1 E123 (by omega)
 have := E123.size
 have hM127 := hM121.eff E123
 refine L.insert (key := Key.u8) (K := Kd.bool) (agg := false) (M := [b101] ++ []) (b := b101) (kt := 5) (et := 4) (kx := (92 : UInt8)) (y := true) (cs := [.bool true]) (by kernel_rfl : lookAt _ _ _ _ = some ((Op.insert 180 (Operand.tmp 1) (Operand.const (Value.int IntKind.u8 92)) (Operand.const (Value.bool Bool.true))), none)) (by kernel_rfl) (by kernel_rfl) (by kernel_rfl) (by kernel_rfl) (by kernel_rfl) Q125 (by simp [*]) rfl ?_
 intro w128 E129 hz130 Q131
 have hE132 := hE126.and1 E129 (by omega)
 have := E129.size
 have hM133 := hM127.eff E129
 refine L.insert (key := Key.u8) (K := Kd.bool) (agg := false) (M := [b101] ++ []) (b := b101) (kt := 5) (et := 4) (kx := (60 : UInt8)) (y := true) (cs := [.bool true]) (by kernel_rfl : lookAt _ _ _ _ = some ((Op.insert 180 (Operand.tmp 1) (Operand.const (Value.int IntKind.u8 60)) (Operand.const (Value.bool Bool.true))), none)) (by kernel_rfl) (by kernel_rfl) (by kernel_rfl) (by kernel_rfl) (by kernel_rfl) Q131 (by simp [*]) rfl ?_
 intro w134 E135 hz136 Q137
 have hE138 := hE132.and1 E135 (by omega)
 have := E135.size
 have hM139 := hM133.eff E135
 refine L.insert (key := Key.u8) (K := Kd.bool) (agg := false) (M := [b101] ++ []) (b := b101) (kt := 5) (et := 4) (kx := (62 : UInt8)) (y := true) (cs := [.bool true]) (by kernel_rfl : lookAt _ _ _ _ = some ((Op.insert 180 (Operand.tmp 1) (Operand.const (Value.int IntKind.u8 62)) (Operand.const (Value.bool Bool.true))), none)) (by kernel_rfl) (by kernel_rfl) (by kernel_rfl) (by kernel_rfl) (by kernel_rfl) Q137 (by simp [*]) rfl ?_
 intro w140 E141 hz142 Q143
 have hE144 := hE138.and1 E141 (by omega)
 have := E141.size
 have hM145 := hM139.eff E141
 refine L.insert (key := Key.u8) (K := Kd.bool) (agg := false) (M := [b101] ++ []) (b := b101) (kt := 5) (et := 4) (kx := (59 : UInt8)) (y := true) (cs := [.bool true]) (by kernel_rfl : lookAt _ _ _ _ = some ((Op.insert 180 (Operand.tmp 1) (Operand.const (Value.int IntKind.u8 59)) (Operand.const (Value.bool Bool.true))), none)) (by kernel_rfl) (by kernel_rfl) (by kernel_rfl) (by kernel_rfl) (by kernel_rfl) Q143 (by simp [*]) rfl ?_
 intro w146 E147 hz148 Q149
 have hE150 := hE144.and1 E147 (by omega)
 have := E147.size
 have hM151 := hM145.eff E147
 refine L.insert (key := Key.u8) (K := Kd.bool) (agg := false) (M := [b101] ++ []) (b := b101) (kt := 5) (et := 4) (kx := (61 : UInt8)) (y := true) (cs := [.bool true]) (by kernel_rfl : lookAt _ _ _ _ = some ((Op.insert 180 (Operand.tmp 1) (Operand.const (Value.int IntKind.u8 61)) (Operand.const (Value.bool Bool.true))), none)) (by kernel_rfl) (by kernel_rfl) (by kernel_rfl) (by kernel_rfl) (by kernel_rfl) Q149 (by simp [*]) rfl ?_
 intro w152 E153 hz154 Q155
 have hE156 := hE150.and1 E153 (by omega)
 have := E153.size
 have hM157 := hM151.eff E153
 refine L.runU [9, 10] [] [(2, .map (some b101)), (0, .map (some b101))] (by kernel_rfl) (by kernel_rfl) ?_
 refine L.done ?_
 show S _ _ _ c125_1_1 _ _ _ _
 refine S.ret (by kernel_rfl) ?_
 show Leave _ _ _ _ _ _ _ _
 refine Leave.ret1 (x := .tmp 0) (.map (some b101)) (by kernel_rfl) (.ofT (by kernel_rfl)) ?_
 exact ⟨_, rfl, hE156, _, rfl, fun M => signs_flat (show MapIs Key.u8 Kd.bool false _ _ _ signsL from (by rfl : mput (mput (mput (mput (mput (mput (mput (mput [] (44 : UInt8) true) (43 : UInt8) true) (34 : UInt8) true) (92 : UInt8) true) (60 : UInt8) true) (62 : UInt8) true) (59 : UInt8) true) (61 : UInt8) true = signsL) ▸ Q155), by omega⟩
noncomputable def c88 : Code := bodyOf Tryz.f88
noncomputable def c88_0 : Code := kid 0 c88
noncomputable def o88_0 : Array Oper := regOps c88_0
noncomputable def c88_1 : Code := kid 1 c88
noncomputable def c88_1_0 : Code := kid 0 c88_1
noncomputable def o88_1_0 : Array Oper := regOps c88_1_0
noncomputable def c88_1_1 : Code := kid 1 c88_1
noncomputable def c88_1_1_0 : Code := kid 0 c88_1_1
noncomputable def o88_1_1_0 : Array Oper := regOps c88_1_1_0
noncomputable def c88_1_1_1 : Code := kid 1 c88_1_1
noncomputable def c88_n7 : Code := kid 0 c88_1_1_1
noncomputable def c88_n8 : Code := kid 0 c88_n7
noncomputable def o88_n8 : Array Oper := regOps c88_n8
noncomputable def c88_n9 : Code := kid 1 c88_n7
noncomputable def c88_n10 : Code := kid 0 c88_n9
noncomputable def c88_n11 : Code := kid 0 c88_n10
noncomputable def c88_n12 : Code := kid 0 c88_n11
noncomputable def o88_n12 : Array Oper := regOps c88_n12
noncomputable def c88_n13 : Code := kid 1 c88_n11
noncomputable def c88_n14 : Code := kid 0 c88_n13
noncomputable def c88_n15 : Code := kid 0 c88_n14
noncomputable def c88_n16 : Code := kid 1 c88_n14
noncomputable def c88_n17 : Code := kid 1 c88_n13
noncomputable def c88_n18 : Code := kid 0 c88_n17
noncomputable def c88_n19 : Code := kid 0 c88_n18
noncomputable def c88_n20 : Code := kid 0 c88_n19
noncomputable def o88_n20 : Array Oper := regOps c88_n20
noncomputable def c88_n21 : Code := kid 1 c88_n19
noncomputable def c88_n22 : Code := kid 0 c88_n21
noncomputable def c88_n23 : Code := kid 0 c88_n22
noncomputable def c88_n24 : Code := kid 0 c88_n23
noncomputable def o88_n24 : Array Oper := regOps c88_n24
noncomputable def c88_n25 : Code := kid 1 c88_n23
noncomputable def c88_n26 : Code := kid 0 c88_n25
noncomputable def c88_n27 : Code := kid 0 c88_n26
noncomputable def o88_n27 : Array Oper := regOps c88_n27
noncomputable def c88_n28 : Code := kid 1 c88_n26
noncomputable def c88_n29 : Code := kid 1 c88_n25
noncomputable def c88_n30 : Code := kid 0 c88_n29
noncomputable def c88_n31 : Code := kid 0 c88_n30
noncomputable def o88_n31 : Array Oper := regOps c88_n31
noncomputable def c88_n32 : Code := kid 1 c88_n30
noncomputable def c88_n33 : Code := kid 0 c88_n32
noncomputable def c88_n34 : Code := kid 1 c88_n32
noncomputable def c88_n35 : Code := kid 0 c88_n34
noncomputable def o88_n35 : Array Oper := regOps c88_n35
noncomputable def c88_n36 : Code := kid 1 c88_n34
noncomputable def c88_n37 : Code := kid 0 c88_n36
noncomputable def c88_n38 : Code := kid 1 c88_n36
noncomputable def o88_n38 : Array Oper := regOps c88_n38
noncomputable def c88_n39 : Code := kid 1 c88_n29
noncomputable def c88_n40 : Code := kid 0 c88_n39
noncomputable def o88_n40 : Array Oper := regOps c88_n40
noncomputable def c88_n41 : Code := kid 1 c88_n39
noncomputable def c88_n42 : Code := kid 1 c88_n21
noncomputable def o88_n42 : Array Oper := regOps c88_n42
noncomputable def c88_n43 : Code := kid 1 c88_n17
noncomputable def o88_n43 : Array Oper := regOps c88_n43
noncomputable def c88_n44 : Code := kid 1 c88_1_1_1
noncomputable def c88_n45 : Code := kid 0 c88_n44
noncomputable def o88_n45 : Array Oper := regOps c88_n45
noncomputable def c88_n46 : Code := kid 1 c88_n44
set_option maxHeartbeats 400000 in
theorem dnval_ok (l : Str) (w : World) (hl : l.length ≤ 1048576) : Calls Tryz.prog 88 #[sv l] w (RetW [] w fun v _ => v = sv (valT l l.length)) := by
 refine calls_of_S (n := 65) (c := c88) Tryz.func88 (by kernel_rfl) (by kernel_rfl) (Nat.le_of_ble_eq_true (by kernel_rfl)) ?_
 have hE0 : Eff [] w w := Eff.refl _ _
 refine S.seq (x := c88_0) (y := c88_1) (by kernel_rfl) ?_
 refine S.reg (ops := o88_0) (js := [0]) (by kernel_rfl) (by kernel_rfl) ?_
 refine L.runU [0] [] [(2, sv [])] (by kernel_rfl) (by kernel_rfl) ?_
 refine L.done ?_
 show S _ _ _ c88_1 _ _ _ _
 refine S.seq (x := c88_1_0) (y := c88_1_1) (by kernel_rfl) ?_
 refine S.reg (ops := o88_1_0) (js := [0, 1]) (by kernel_rfl) (by kernel_rfl) ?_
 refine L.call (f := 125) (by kernel_rfl : lookAt _ _ _ _ = some ((Op.call { callee := (Callee.value (Operand.func 125)), args := #[], argTypes := #[] }), some 7)) e125 (by kernel_rfl) (signs_ok _) ?_
 rintro _ w105 E106 ⟨b101, rfl, Q102, hb103⟩
 have nm108 := not_mem_of_ge (b := b101) (Mok.nil _) hb103
 have hE109 := hE0.and0 E106
 have := E106.size
 have hM110 := (Mok.nil _).eff E106
 have Q111 := Q102 ([])
 have := Q111.lt
 refine L.runU [1] [] [(3, .map (some b101))] (by kernel_rfl) (by kernel_rfl) ?_
 refine L.done ?_
 show S _ _ _ c88_1_1 _ _ _ _
 refine S.seq (x := c88_1_1_0) (y := c88_1_1_1) (by kernel_rfl) ?_
 refine S.reg (ops := o88_1_1_0) (js := [0]) (by kernel_rfl) (by kernel_rfl) ?_
 refine L.runU [0] [] [(4, .slice none 0 0)] (by kernel_rfl) (by kernel_rfl) ?_
 refine L.done ?_
 show S _ _ _ c88_1_1_1 _ _ _ _
 refine S.seq (x := c88_n7) (y := c88_n44) (by kernel_rfl) ?_
 refine S.seq (x := c88_n8) (y := c88_n9) (by kernel_rfl) ?_
 refine S.reg (ops := o88_n8) (js := [0, 1, 2, 3]) (by kernel_rfl) (by kernel_rfl) ?_
 refine L.runU [0] [1, 2, 3] [(8, sv l)] (by kernel_rfl) (by kernel_rfl) ?_
 refine L.bytes (e := 5) (u := .string) l (by kernel_rfl : lookAt _ _ _ _ = some ((Op.convert 9 128 (Operand.tmp 8)), some 9)) (by kernel_rfl) (by kernel_rfl) (by kernel_rfl) (by kernel_rfl) ?_
 intro b112 cap113 rest114 w115 hs116 hz117 E118 B119 hc120
 have hE121 := hE109.and0 E118
 have := E118.size
 have nm123 := ninN nm108 Q111.lt (nNew (fresh1 hs116) same)
 have Q122 := Q111.step (nNew (fresh1 hs116) same) E118 (by simp) no0
 have hM124 : Mok ([b112] ++ []) w115 := hM110.step E118 (nNew (flt1 (b := b112) (by omega)) same)
 refine L.runU [2, 3] [] [(10, .int .i64 (((l.length : Nat) : Int))), (11, .int .i64 0)] (by kernel_rfl) (by kernel_rfl) ?_
 refine L.done ?_
 show S _ _ _ c88_n9 _ _ _ _
 refine S.block (id := 0) (x := c88_n10) (by kernel_rfl) ?_
 have O125 : Own Kd.byte 5 w.heap.size ([b112] ++ []) w115 (.slice none 0 0) [] := Own.nil _ _ _ _ _
 have R126 : MapIs Key.u8 Kd.bool false (ob (.slice none 0 0) ++ ([b112] ++ [])) w115 b101 signsL := Q122
 have nm127 : b101 ∉ ob (.slice none 0 0) ++ ([b112] ++ []) := nm123
 have hM128 : Mok (ob (.slice none 0 0) ++ ([b112] ++ [])) w115 := hM124
 refine S.loop (x := c88_n11) (fun m σ' ds' w' => ∃ (k : Nat) (a129 : Option Addr) (cap130 : Nat) (out : List UInt8), m = l.length - k ∧ (k ≤ l.length) ∧ (out = valT l k) ∧ (out.length ≤ k * 3) ∧ MapIs Key.u8 Kd.bool false (ob (.slice a129 out.length cap130) ++ ([b112] ++ [])) w' b101 signsL ∧ b101 ∉ ob (.slice a129 out.length cap130) ++ ([b112] ++ []) ∧ Blk w' b112 (l.map bv ++ rest114) 5 ∧ Own Kd.byte 5 w.heap.size ([b112] ++ []) w' (.slice a129 out.length cap130) out ∧ Mok (ob (.slice a129 out.length cap130) ++ ([b112] ++ [])) w' ∧ Eff [] w w' ∧ w115.heap.size ≤ w'.heap.size ∧ ds' = [] ∧ ∃ u, σ' = slots u [(0, sv l), (2, sv []), (3, .map (some b101)), (4, .slice a129 out.length cap130), (9, .slice (some ⟨b112, 0, none⟩) l.length cap113), (10, .int .i64 (((l.length : Nat) : Int))), (11, .int .i64 (((k : Nat) : Int)))]) (l.length - 0) (by kernel_rfl) ⟨0, none, 0, [], rfl, (by omega), (by rfl), (by exact Nat.le_refl _), R126, nm127, B119, O125, hM128, hE121, (Nat.le_refl _), rfl, _, Holds.eq (l := [(0, sv l), (2, sv []), (3, .map (some b101)), (4, .slice none 0 0), (9, .slice (some ⟨b112, 0, none⟩) l.length cap113), (10, .int .i64 (((l.length : Nat) : Int))), (11, .int .i64 0)]) ⟨by kernel_rfl, by kernel_rfl, by kernel_rfl, by kernel_rfl, by kernel_rfl, by kernel_rfl, by kernel_rfl, trivial⟩⟩ ?_
 rintro m132 σ' ds' w131 ⟨k, a129, cap130, out, hm134, hk, hout, hol, F135, nm136, F137, O138, hM139, hE140, hz141, rfl, u133, rfl⟩
 refine S.seq (x := c88_n12) (y := c88_n13) (by kernel_rfl) ?_
 refine S.reg (ops := o88_n12) (js := [0]) (by kernel_rfl) (by kernel_rfl) ?_
 refine L.runU [0] [] [(12, .bool (decide (((k : Nat) : Int) < ((l.length : Nat) : Int))))] (by kernel_rfl) (by kernel_rfl) ?_
 refine L.done ?_
 show S _ _ _ c88_n13 _ _ _ _
 refine S.seq (x := c88_n14) (y := c88_n17) (by kernel_rfl) ?_
 refine S.condP (((k : Nat) : Int) < ((l.length : Nat) : Int)) (o := (Operand.tmp 12)) (x := c88_n15) (y := c88_n16) (by kernel_rfl) (by kernel_rfl) (fun h142 => ?_) (fun h142 => ?_)
 ·refine S.skip (by kernel_rfl) ?_
  show S _ _ _ c88_n17 _ _ _ _
  refine S.seq (x := c88_n18) (y := c88_n43) (by kernel_rfl) ?_
  refine S.block (id := 1) (x := c88_n19) (by kernel_rfl) ?_
  refine S.seq (x := c88_n20) (y := c88_n21) (by kernel_rfl) ?_
  refine S.reg (ops := o88_n20) (js := [0, 1, 2, 3, 4]) (by kernel_rfl) (by kernel_rfl) ?_
  refine L.runU [0] [1, 2, 3, 4] [(13, .int .i64 (((k : Nat) : Int)))] (by kernel_rfl) (by kernel_rfl) ?_
  obtain ⟨x144, hx145⟩ : ∃ x, (l)[k]? = some x := ⟨_, List.getElem?_eq_getElem (by omega)⟩
  have A143 : CAt [] w131 ((⟨b112, 0, none⟩ : Addr).add k) [bv x144] := .ofByte F137 hx145
  have := x144.toNat_lt
  refine L.val (.pointer (some ((⟨b112, 0, none⟩ : Addr).add k))) (by kernel_rfl : lookAt _ _ _ _ = some ((Op.indexAddr 128 (Operand.tmp 9) (Operand.tmp 11)), some 14)) (by intro c e; cases e) (rx_indexAddr (e := 5) (sz := 1) (a := some ⟨b112, 0, none⟩) (p := (⟨b112, 0, none⟩ : Addr)) (len := l.length) (cap := cap113) (kk := .i64) (i := ((k : Nat) : Int)) k k (by kernel_rfl) (by kernel_rfl) (by kernel_rfl) (by kernel_rfl) (by kernel_rfl) (by omega) (by omega) (by omega)) ?_
  refine L.val (.int .u8 (x144.toNat : Int)) (by kernel_rfl : lookAt _ _ _ _ = some ((Op.load 5 (Operand.tmp 14)), some 15)) (by intro c e; cases e) (rx_load 0 (.int .u8 (x144.toNat : Int)) (A143.1) (by kernel_rfl) (by kernel_rfl)) ?_
  refine L.runU [3, 4] [] [(5, .int .i64 (((k : Nat) : Int))), (6, .int .u8 (x144.toNat : Int))] (by kernel_rfl) (by kernel_rfl) ?_
  refine L.done ?_
  show S _ _ _ c88_n21 _ _ _ _
  refine S.seq (x := c88_n22) (y := c88_n42) (by kernel_rfl) ?_
  refine S.block (id := 2) (x := c88_n23) (by kernel_rfl) ?_
  refine S.seq (x := c88_n24) (y := c88_n25) (by kernel_rfl) ?_
  refine S.reg (ops := o88_n24) (js := [0, 1, 2, 3, 4, 5, 6]) (by kernel_rfl) (by kernel_rfl) ?_
  refine L.runU [0, 1, 2] [3, 4, 5, 6] [(17, .int .u8 (x144.toNat : Int)), (18, .bool (decide ((x144.toNat : Int) < 32))), (19, .bool (decide ((x144.toNat : Int) < 32)))] (by kernel_rfl) (by kernel_rfl) ?_
  refine X.splitP (G := fun σ => L _ _ _ _ _ _ σ _ _) ((x144.toNat : Int) < 32) 19 (by kernel_rfl) (fun h146 => ?_) (fun h146 => ?_)
  ·refine L.runU [3, 4, 5, 6] [] [(20, undef), (21, undef), (22, .bool true), (16, .bool true)] (by kernel_rfl) (by kernel_rfl) ?_
   refine L.done ?_
   show S _ _ _ c88_n25 _ _ _ _
   refine S.condT (o := (Operand.tmp 16)) (x := c88_n26) (y := c88_n29) (by kernel_rfl) (by kernel_rfl) ?_
   refine S.seq (x := c88_n27) (y := c88_n28) (by kernel_rfl) ?_
   refine S.draw (ops := o88_n27) (Eff (ob (.slice a129 out.length cap130))) 10 #[false, false, false, false, false, false, false, false, false, false] (by kernel_rfl) (by kernel_rfl) (by kernel_rfl) (by kernel_rfl) ?_
   intro w147 E148 hw149
   have hE151 := hE140.and0 E148
   have := E148.size
   have Q152 := F135.step same E148 (by simp) no0
   have B153 := F137.eff0 E148
   have O154 := O138.step same E148 no0
   have A155 := A143.step same E148 no0
   have hM156 := hM139.eff E148
   have hS150 := Eff.refl (ob (.slice a129 out.length cap130)) w147
   have mm157 : ∀ x, x ∈ ob (.slice a129 out.length cap130) → x ∈ ob (.slice a129 out.length cap130) ∨ w147.heap.size ≤ x := fun x hx => .inl (by simp [hx])
   refine D.take 0 (.slice a129 out.length cap130) (some 23) #[true, false, false, false, false, false, false, false, false, false] (by kernel_rfl) (by kernel_rfl) (by kernel_rfl) (fun _ _ _ _ h => LeaveP.put h (by kernel_rfl)) (.pure (n := 65) (by kernel_rfl)) hS150 ?_
   refine D.take 1 (.int .u8 (x144.toNat : Int)) (some 24) #[true, true, false, false, false, false, false, false, false, false] (by kernel_rfl) (by kernel_rfl) (by kernel_rfl) (fun _ _ _ _ h => LeaveP.put h (by kernel_rfl)) (.pure (n := 65) (by kernel_rfl)) hS150 ?_
   refine D.take 2 (.int .u8 (Int.fdiv (x144.toNat : Int) 16)) (some 25) #[true, true, true, false, false, false, false, false, false, false] (by kernel_rfl) (by kernel_rfl) (by kernel_rfl) (fun _ _ _ _ h => LeaveP.put h (by kernel_rfl)) (.pure (n := 65) (by kernel_rfl)) hS150 ?_
   refine X.reInt (kk := .u8) (G := fun σ => D _ _ _ _ _ _ _ _ σ _ _) (d := 25) (Int.fdiv (x144.toNat : Int) 16) (((x144.toNat / 16 : Nat) : Int)) (by kernel_rfl) (fdiv_nat x144.toNat 16) ?_
   obtain ⟨x158, hx159⟩ : ∃ x, ([48, 49, 50, 51, 52, 53, 54, 55, 56, 57, 97, 98, 99, 100, 101, 102] : Str)[x144.toNat / 16]? = some x := ⟨_, List.getElem?_eq_getElem (by simp only [List.length_cons, List.length_nil]; omega)⟩
   have := x158.toNat_lt
   refine D.take 3 (.int .u8 (x158.toNat : Int)) (some 26) #[true, true, true, true, false, false, false, false, false, false] (by kernel_rfl) (by kernel_rfl) (by kernel_rfl) (fun _ _ _ _ h => LeaveP.put h (by kernel_rfl)) (.val (n := 65) (by kernel_rfl : lookAt _ _ _ _ = some ((Op.index 9 (Operand.const (Value.string { data := #[48, 49, 50, 51, 52, 53, 54, 55, 56, 57, 97, 98, 99, 100, 101, 102] })) (Operand.tmp 25)), some 26)) (by intro c e; cases e) (fun _ h => rx_strIndex (kk := .u8) (i := ((x144.toNat / 16 : Nat) : Int)) [48, 49, 50, 51, 52, 53, 54, 55, 56, 57, 97, 98, 99, 100, 101, 102] (x144.toNat / 16) x158 (by kernel_rfl) (by kernel_rfl) (by kernel_rfl) (by omega) hx159)) hS150 ?_
   refine D.take 4 (.int .u8 (x144.toNat : Int)) (some 27) #[true, true, true, true, true, false, false, false, false, false] (by kernel_rfl) (by kernel_rfl) (by kernel_rfl) (fun _ _ _ _ h => LeaveP.put h (by kernel_rfl)) (.pure (n := 65) (by kernel_rfl)) hS150 ?_
   refine D.take 5 (.int .u8 (IntKind.u8.wrap ((BitVec.ofInt 8 (x144.toNat : Int) &&& BitVec.ofInt 8 15).toNat : Int))) (some 28) #[true, true, true, true, true, true, false, false, false, false] (by kernel_rfl) (by kernel_rfl) (by kernel_rfl) (fun _ _ _ _ h => LeaveP.put h (by kernel_rfl)) (.pure (n := 65) (by kernel_rfl)) hS150 ?_
   refine X.reInt (kk := .u8) (G := fun σ => D _ _ _ _ _ _ _ _ σ _ _) (d := 28) (IntKind.u8.wrap ((BitVec.ofInt 8 (x144.toNat : Int) &&& BitVec.ofInt 8 15).toNat : Int)) (((x144.toNat % 16 : Nat) : Int)) (by kernel_rfl) (and_u8_4 (a := x144.toNat) (by omega)) ?_
   obtain ⟨x160, hx161⟩ : ∃ x, ([48, 49, 50, 51, 52, 53, 54, 55, 56, 57, 97, 98, 99, 100, 101, 102] : Str)[x144.toNat % 16]? = some x := ⟨_, List.getElem?_eq_getElem (by simp only [List.length_cons, List.length_nil]; omega)⟩
   have := x160.toNat_lt
   refine D.take 6 (.int .u8 (x160.toNat : Int)) (some 29) #[true, true, true, true, true, true, true, false, false, false] (by kernel_rfl) (by kernel_rfl) (by kernel_rfl) (fun _ _ _ _ h => LeaveP.put h (by kernel_rfl)) (.val (n := 65) (by kernel_rfl : lookAt _ _ _ _ = some ((Op.index 9 (Operand.const (Value.string { data := #[48, 49, 50, 51, 52, 53, 54, 55, 56, 57, 97, 98, 99, 100, 101, 102] })) (Operand.tmp 28)), some 29)) (by intro c e; cases e) (fun _ h => rx_strIndex (kk := .u8) (i := ((x144.toNat % 16 : Nat) : Int)) [48, 49, 50, 51, 52, 53, 54, 55, 56, 57, 97, 98, 99, 100, 101, 102] (x144.toNat % 16) x160 (by kernel_rfl) (by kernel_rfl) (by kernel_rfl) (by omega) hx161)) hS150 ?_
   refine D.all [7] (by kernel_rfl) (by kernel_rfl) ⟨?_, trivial⟩
   refine L.newRow (fun b => .slice (some ⟨b, 0, none⟩) 3 3) [.int .u8 92, .int .u8 (x158.toNat : Int), .int .u8 (x160.toNat : Int)] 5 (by kernel_rfl : lookAt _ _ _ _ = some ((Op.buildSlice 128 3 #[(0, (Operand.const (Value.int IntKind.u8 92))), (1, (Operand.tmp 26)), (2, (Operand.tmp 29))]), some 30)) (by intro c e; cases e) (fun w => by kernel_rfl) ?_
   intro b162 w163 hs164 hz165 E166 B167
   have nm168 := not_mem_of_ge (b := b162) hM156 (by omega)
   have hE169 := hE151.and0 E166
   have := E166.size
   have hS170 := hS150.and0 E166
   have Q171 := Q152.step same E166 (by simp) no0
   have B172 := B153.eff0 E166
   have O173 := O154.step same E166 no0
   have A174 := A155.step same E166 no0
   have hM175 := hM156.eff E166
   refine ⟨hS170, ?_⟩
   refine D.all [8] (by kernel_rfl) (by kernel_rfl) ⟨?_, trivial⟩
   refine L.append (K := Kd.byte) (e := 5) (base := w.heap.size) (bytes := 1) (M := [b112] ++ []) (v := .slice a129 out.length cap130) (xs := out) (ys := [(92 : UInt8), x158, x160]) (a := some ⟨b162, 0, none⟩) (cap := 3) (by kernel_rfl : lookAt _ _ _ _ = some ((Op.call { callee := (Callee.builtin Builtin.append), args := #[(Operand.tmp 23), (Operand.tmp 30)], argTypes := #[128, 128] }), some 31)) (by kernel_rfl) (by kernel_rfl) (by kernel_rfl) (by kernel_rfl) O173 (Sl.many (K := Kd.byte) (xs := [(92 : UInt8), x158, x160]) (cells := [[.int .u8 92], [.int .u8 (x158.toNat : Int)], [.int .u8 (x160.toNat : Int)]]) B167 nm168 ⟨rfl, rfl, rfl, trivial⟩ rfl (by simp only [List.length_cons, List.length_nil]; omega)) (hM175.sub (sDrop sSame)) (by (simp only [List.length_cons, List.length_nil, List.length_append, List.length_take, List.length_drop, List.length_map, List.length_replicate] <;> omega)) (by omega) hE169.size ?_
   intro v176 w177 O178 E179 hat180
   obtain ⟨a181, cap182, rfl⟩ := O178.slice
   have hat183 := hatN hat180
   have hE184 := hE169.andMem E179 (memOwn O173 (Nat.le_refl _))
   have := E179.size
   have hS185 := hS170.andMem E179 mm157
   have mm186 := memN (base := w147.heap.size) mm157 hat183 (by omega)
   have nm188 := ninN nm136 Q171.lt (nTurn hat183 (nKeep same))
   have Q187 := Q171.step (nTurn hat183 (nKeep same)) E179 (fun h => nm136 (List.mem_append_left _ (h))) (fun _ h => List.mem_append_left _ (h))
   have B189 := B172.eff E179 (O173.apart (List.mem_append_left _ (List.mem_singleton.2 rfl)))
   have nm191 := ninN nm168 B167.lt (nTurn hat183 (nKeep same))
   have B190 := B167.eff E179 (fun h => nm168 (List.mem_append_left _ (h)))
   have hM192 : Mok (ob (.slice a181 ((out ++ [(92 : UInt8), x158, x160]).length) cap182) ++ ([b112] ++ [])) w177 := hM175.step E179 (nTurn (fun b hb => .inr ((fun b hb => (O178.lt b hb).2) b hb)) (nKeep same))
   refine ⟨hS185, ?_⟩
   refine D.take 9 (.slice a181 ((out ++ [(92 : UInt8), x158, x160]).length) cap182) (some 4) #[true, true, true, true, true, true, true, true, true, true] (by kernel_rfl) (by kernel_rfl) (by kernel_rfl) (fun _ _ _ _ h => LeaveP.put h (by kernel_rfl)) (.pure (n := 65) (by kernel_rfl)) hS185 ?_
   refine D.done _ (by kernel_rfl) ?_
   show S _ _ _ c88_n28 _ _ _ _
   refine S.exit (id := 1) (by kernel_rfl) ?_
   show S _ _ _ c88_n43 _ _ _ _
   refine S.reg (ops := o88_n43) (js := [0, 1]) (by kernel_rfl) (by kernel_rfl) ?_
   refine L.runU [0] [1] [(62, .int .i64 (IntKind.i64.wrap (((k : Nat) : Int) + 1)))] (by kernel_rfl) (by kernel_rfl) ?_
   refine X.re64 (G := fun σ => L _ _ _ _ _ _ σ _ _) (d := 62) (((k : Nat) : Int) + 1) (((k + 1 : Nat) : Int)) (by kernel_rfl) (by omega) ?_
   refine L.runU [1] [] [(11, .int .i64 (((k + 1 : Nat) : Int)))] (by kernel_rfl) (by kernel_rfl) ?_
   refine L.done ?_
   show ∃ m', m' < _ ∧ _
   refine ⟨l.length - (k + 1), ?_, ⟨k + 1, a181, cap182, out ++ [(92 : UInt8), x158, x160], rfl, (by omega), (by have hx := hx145; first | exact valT_snoc hout hx (by grind [escB, signB, hexD, getD_of]) | (rw [List.append_assoc]; exact valT_snoc hout hx (by grind [escB, signB, hexD, getD_of]))), (by simp only [List.length_append, List.length_cons, List.length_nil]; omega), Q187, nm188, B189, O178, hM192, hE184, (by omega), rfl, _, Holds.eq (l := [(0, sv l), (2, sv []), (3, .map (some b101)), (4, .slice a181 ((out ++ [(92 : UInt8), x158, x160]).length) cap182), (9, .slice (some ⟨b112, 0, none⟩) l.length cap113), (10, .int .i64 (((l.length : Nat) : Int))), (11, .int .i64 (((k + 1 : Nat) : Int)))]) ⟨by kernel_rfl, by kernel_rfl, by kernel_rfl, by kernel_rfl, by kernel_rfl, by kernel_rfl, by kernel_rfl, trivial⟩⟩⟩
   omega
  ·refine L.runU [3, 4, 5, 6] [] [(20, .int .u8 (x144.toNat : Int)), (21, .bool (decide (126 < (x144.toNat : Int)))), (22, .bool (decide (126 < (x144.toNat : Int)))), (16, .bool (decide (126 < (x144.toNat : Int))))] (by kernel_rfl) (by kernel_rfl) ?_
   refine L.done ?_
   show S _ _ _ c88_n25 _ _ _ _
   refine S.condP (126 < (x144.toNat : Int)) (o := (Operand.tmp 16)) (x := c88_n26) (y := c88_n29) (by kernel_rfl) (by kernel_rfl) (fun h193 => ?_) (fun h193 => ?_)
   ·refine S.seq (x := c88_n27) (y := c88_n28) (by kernel_rfl) ?_
    refine S.draw (ops := o88_n27) (Eff (ob (.slice a129 out.length cap130))) 10 #[false, false, false, false, false, false, false, false, false, false] (by kernel_rfl) (by kernel_rfl) (by kernel_rfl) (by kernel_rfl) ?_
    intro w194 E195 hw196
    have hE198 := hE140.and0 E195
    have := E195.size
    have Q199 := F135.step same E195 (by simp) no0
    have B200 := F137.eff0 E195
    have O201 := O138.step same E195 no0
    have A202 := A143.step same E195 no0
    have hM203 := hM139.eff E195
    have hS197 := Eff.refl (ob (.slice a129 out.length cap130)) w194
    have mm204 : ∀ x, x ∈ ob (.slice a129 out.length cap130) → x ∈ ob (.slice a129 out.length cap130) ∨ w194.heap.size ≤ x := fun x hx => .inl (by simp [hx])
    refine D.take 0 (.slice a129 out.length cap130) (some 23) #[true, false, false, false, false, false, false, false, false, false] (by kernel_rfl) (by kernel_rfl) (by kernel_rfl) (fun _ _ _ _ h => LeaveP.put h (by kernel_rfl)) (.pure (n := 65) (by kernel_rfl)) hS197 ?_
    refine D.take 1 (.int .u8 (x144.toNat : Int)) (some 24) #[true, true, false, false, false, false, false, false, false, false] (by kernel_rfl) (by kernel_rfl) (by kernel_rfl) (fun _ _ _ _ h => LeaveP.put h (by kernel_rfl)) (.pure (n := 65) (by kernel_rfl)) hS197 ?_
    refine D.take 2 (.int .u8 (Int.fdiv (x144.toNat : Int) 16)) (some 25) #[true, true, true, false, false, false, false, false, false, false] (by kernel_rfl) (by kernel_rfl) (by kernel_rfl) (fun _ _ _ _ h => LeaveP.put h (by kernel_rfl)) (.pure (n := 65) (by kernel_rfl)) hS197 ?_
    refine X.reInt (kk := .u8) (G := fun σ => D _ _ _ _ _ _ _ _ σ _ _) (d := 25) (Int.fdiv (x144.toNat : Int) 16) (((x144.toNat / 16 : Nat) : Int)) (by kernel_rfl) (fdiv_nat x144.toNat 16) ?_
    obtain ⟨x205, hx206⟩ : ∃ x, ([48, 49, 50, 51, 52, 53, 54, 55, 56, 57, 97, 98, 99, 100, 101, 102] : Str)[x144.toNat / 16]? = some x := ⟨_, List.getElem?_eq_getElem (by simp only [List.length_cons, List.length_nil]; omega)⟩
    have := x205.toNat_lt
    refine D.take 3 (.int .u8 (x205.toNat : Int)) (some 26) #[true, true, true, true, false, false, false, false, false, false] (by kernel_rfl) (by kernel_rfl) (by kernel_rfl) (fun _ _ _ _ h => LeaveP.put h (by kernel_rfl)) (.val (n := 65) (by kernel_rfl : lookAt _ _ _ _ = some ((Op.index 9 (Operand.const (Value.string { data := #[48, 49, 50, 51, 52, 53, 54, 55, 56, 57, 97, 98, 99, 100, 101, 102] })) (Operand.tmp 25)), some 26)) (by intro c e; cases e) (fun _ h => rx_strIndex (kk := .u8) (i := ((x144.toNat / 16 : Nat) : Int)) [48, 49, 50, 51, 52, 53, 54, 55, 56, 57, 97, 98, 99, 100, 101, 102] (x144.toNat / 16) x205 (by kernel_rfl) (by kernel_rfl) (by kernel_rfl) (by omega) hx206)) hS197 ?_
    refine D.take 4 (.int .u8 (x144.toNat : Int)) (some 27) #[true, true, true, true, true, false, false, false, false, false] (by kernel_rfl) (by kernel_rfl) (by kernel_rfl) (fun _ _ _ _ h => LeaveP.put h (by kernel_rfl)) (.pure (n := 65) (by kernel_rfl)) hS197 ?_
    refine D.take 5 (.int .u8 (IntKind.u8.wrap ((BitVec.ofInt 8 (x144.toNat : Int) &&& BitVec.ofInt 8 15).toNat : Int))) (some 28) #[true, true, true, true, true, true, false, false, false, false] (by kernel_rfl) (by kernel_rfl) (by kernel_rfl) (fun _ _ _ _ h => LeaveP.put h (by kernel_rfl)) (.pure (n := 65) (by kernel_rfl)) hS197 ?_
    refine X.reInt (kk := .u8) (G := fun σ => D _ _ _ _ _ _ _ _ σ _ _) (d := 28) (IntKind.u8.wrap ((BitVec.ofInt 8 (x144.toNat : Int) &&& BitVec.ofInt 8 15).toNat : Int)) (((x144.toNat % 16 : Nat) : Int)) (by kernel_rfl) (and_u8_4 (a := x144.toNat) (by omega)) ?_
    obtain ⟨x207, hx208⟩ : ∃ x, ([48, 49, 50, 51, 52, 53, 54, 55, 56, 57, 97, 98, 99, 100, 101, 102] : Str)[x144.toNat % 16]? = some x := ⟨_, List.getElem?_eq_getElem (by simp only [List.length_cons, List.length_nil]; omega)⟩
    have := x207.toNat_lt
    refine D.take 6 (.int .u8 (x207.toNat : Int)) (some 29) #[true, true, true, true, true, true, true, false, false, false] (by kernel_rfl) (by kernel_rfl) (by kernel_rfl) (fun _ _ _ _ h => LeaveP.put h (by kernel_rfl)) (.val (n := 65) (by kernel_rfl : lookAt _ _ _ _ = some ((Op.index 9 (Operand.const (Value.string { data := #[48, 49, 50, 51, 52, 53, 54, 55, 56, 57, 97, 98, 99, 100, 101, 102] })) (Operand.tmp 28)), some 29)) (by intro c e; cases e) (fun _ h => rx_strIndex (kk := .u8) (i := ((x144.toNat % 16 : Nat) : Int)) [48, 49, 50, 51, 52, 53, 54, 55, 56, 57, 97, 98, 99, 100, 101, 102] (x144.toNat % 16) x207 (by kernel_rfl) (by kernel_rfl) (by kernel_rfl) (by omega) hx208)) hS197 ?_
    refine D.all [7] (by kernel_rfl) (by kernel_rfl) ⟨?_, trivial⟩
    refine L.newRow (fun b => .slice (some ⟨b, 0, none⟩) 3 3) [.int .u8 92, .int .u8 (x205.toNat : Int), .int .u8 (x207.toNat : Int)] 5 (by kernel_rfl : lookAt _ _ _ _ = some ((Op.buildSlice 128 3 #[(0, (Operand.const (Value.int IntKind.u8 92))), (1, (Operand.tmp 26)), (2, (Operand.tmp 29))]), some 30)) (by intro c e; cases e) (fun w => by kernel_rfl) ?_
    intro b209 w210 hs211 hz212 E213 B214
    have nm215 := not_mem_of_ge (b := b209) hM203 (by omega)
    have hE216 := hE198.and0 E213
    have := E213.size
    have hS217 := hS197.and0 E213
    have Q218 := Q199.step same E213 (by simp) no0
    have B219 := B200.eff0 E213
    have O220 := O201.step same E213 no0
    have A221 := A202.step same E213 no0
    have hM222 := hM203.eff E213
    refine ⟨hS217, ?_⟩
    refine D.all [8] (by kernel_rfl) (by kernel_rfl) ⟨?_, trivial⟩
    refine L.append (K := Kd.byte) (e := 5) (base := w.heap.size) (bytes := 1) (M := [b112] ++ []) (v := .slice a129 out.length cap130) (xs := out) (ys := [(92 : UInt8), x205, x207]) (a := some ⟨b209, 0, none⟩) (cap := 3) (by kernel_rfl : lookAt _ _ _ _ = some ((Op.call { callee := (Callee.builtin Builtin.append), args := #[(Operand.tmp 23), (Operand.tmp 30)], argTypes := #[128, 128] }), some 31)) (by kernel_rfl) (by kernel_rfl) (by kernel_rfl) (by kernel_rfl) O220 (Sl.many (K := Kd.byte) (xs := [(92 : UInt8), x205, x207]) (cells := [[.int .u8 92], [.int .u8 (x205.toNat : Int)], [.int .u8 (x207.toNat : Int)]]) B214 nm215 ⟨rfl, rfl, rfl, trivial⟩ rfl (by simp only [List.length_cons, List.length_nil]; omega)) (hM222.sub (sDrop sSame)) (by (simp only [List.length_cons, List.length_nil, List.length_append, List.length_take, List.length_drop, List.length_map, List.length_replicate] <;> omega)) (by omega) hE216.size ?_
    intro v223 w224 O225 E226 hat227
    obtain ⟨a228, cap229, rfl⟩ := O225.slice
    have hat230 := hatN hat227
    have hE231 := hE216.andMem E226 (memOwn O220 (Nat.le_refl _))
    have := E226.size
    have hS232 := hS217.andMem E226 mm204
    have mm233 := memN (base := w194.heap.size) mm204 hat230 (by omega)
    have nm235 := ninN nm136 Q218.lt (nTurn hat230 (nKeep same))
    have Q234 := Q218.step (nTurn hat230 (nKeep same)) E226 (fun h => nm136 (List.mem_append_left _ (h))) (fun _ h => List.mem_append_left _ (h))
    have B236 := B219.eff E226 (O220.apart (List.mem_append_left _ (List.mem_singleton.2 rfl)))
    have nm238 := ninN nm215 B214.lt (nTurn hat230 (nKeep same))
    have B237 := B214.eff E226 (fun h => nm215 (List.mem_append_left _ (h)))
    have hM239 : Mok (ob (.slice a228 ((out ++ [(92 : UInt8), x205, x207]).length) cap229) ++ ([b112] ++ [])) w224 := hM222.step E226 (nTurn (fun b hb => .inr ((fun b hb => (O225.lt b hb).2) b hb)) (nKeep same))
    refine ⟨hS232, ?_⟩
    refine D.take 9 (.slice a228 ((out ++ [(92 : UInt8), x205, x207]).length) cap229) (some 4) #[true, true, true, true, true, true, true, true, true, true] (by kernel_rfl) (by kernel_rfl) (by kernel_rfl) (fun _ _ _ _ h => LeaveP.put h (by kernel_rfl)) (.pure (n := 65) (by kernel_rfl)) hS232 ?_
    refine D.done _ (by kernel_rfl) ?_
    show S _ _ _ c88_n28 _ _ _ _
    refine S.exit (id := 1) (by kernel_rfl) ?_
    show S _ _ _ c88_n43 _ _ _ _
    refine S.reg (ops := o88_n43) (js := [0, 1]) (by kernel_rfl) (by kernel_rfl) ?_
    refine L.runU [0] [1] [(62, .int .i64 (IntKind.i64.wrap (((k : Nat) : Int) + 1)))] (by kernel_rfl) (by kernel_rfl) ?_
    refine X.re64 (G := fun σ => L _ _ _ _ _ _ σ _ _) (d := 62) (((k : Nat) : Int) + 1) (((k + 1 : Nat) : Int)) (by kernel_rfl) (by omega) ?_
    refine L.runU [1] [] [(11, .int .i64 (((k + 1 : Nat) : Int)))] (by kernel_rfl) (by kernel_rfl) ?_
    refine L.done ?_
    show ∃ m', m' < _ ∧ _
    refine ⟨l.length - (k + 1), ?_, ⟨k + 1, a228, cap229, out ++ [(92 : UInt8), x205, x207], rfl, (by omega), (by have hx := hx145; first | exact valT_snoc hout hx (by grind [escB, signB, hexD, getD_of]) | (rw [List.append_assoc]; exact valT_snoc hout hx (by grind [escB, signB, hexD, getD_of]))), (by simp only [List.length_append, List.length_cons, List.length_nil]; omega), Q234, nm235, B236, O225, hM239, hE231, (by omega), rfl, _, Holds.eq (l := [(0, sv l), (2, sv []), (3, .map (some b101)), (4, .slice a228 ((out ++ [(92 : UInt8), x205, x207]).length) cap229), (9, .slice (some ⟨b112, 0, none⟩) l.length cap113), (10, .int .i64 (((l.length : Nat) : Int))), (11, .int .i64 (((k + 1 : Nat) : Int)))]) ⟨by kernel_rfl, by kernel_rfl, by kernel_rfl, by kernel_rfl, by kernel_rfl, by kernel_rfl, by kernel_rfl, trivial⟩⟩⟩
    omega
   ·refine S.seq (x := c88_n30) (y := c88_n39) (by kernel_rfl) ?_
    refine S.seq (x := c88_n31) (y := c88_n32) (by kernel_rfl) ?_
    refine S.reg (ops := o88_n31) (js := [0, 1, 2, 3]) (by kernel_rfl) (by kernel_rfl) ?_
    refine L.runU [0, 1] [2, 3] [(33, .map (some b101)), (34, .int .u8 (x144.toNat : Int))] (by kernel_rfl) (by kernel_rfl) ?_
    rcases hg240 : mget signsL x144 with _ | y241
    ·have look242 := look_none (P := Tryz.prog) (t := 180) (kt := 5) (et := 4) (zv := .bool false) hg240 F135 (by kernel_rfl) (by kernel_rfl) (fun _ => by kernel_rfl)
     have := F135.lt
     refine L.val (.bool false) (by kernel_rfl : lookAt _ _ _ _ = some ((Op.lookup 180 (Operand.tmp 33) (Operand.tmp 34) Bool.false), some 35)) (by intro c e; cases e) (look242 _ _ _ _ false _ (by kernel_rfl) (by kernel_rfl) (by rfl)) ?_
     refine L.runU [3] [] [(32, .bool false)] (by kernel_rfl) (by kernel_rfl) ?_
     refine L.done ?_
     show S _ _ _ c88_n32 _ _ _ _
     refine S.condF (o := (Operand.tmp 32)) (x := c88_n33) (y := c88_n34) (by kernel_rfl) (by kernel_rfl) ?_
     refine S.seq (x := c88_n35) (y := c88_n36) (by kernel_rfl) ?_
     refine S.reg (ops := o88_n35) (js := [0, 1, 2, 3, 4, 5, 6, 7, 8, 9, 10]) (by kernel_rfl) (by kernel_rfl) ?_
     refine L.runU [0, 1, 2] [3, 4, 5, 6, 7, 8, 9, 10] [(36, .int .i64 (((k : Nat) : Int))), (37, .bool (decide (((k : Nat) : Int) = 0))), (38, .bool (decide (((k : Nat) : Int) = 0)))] (by kernel_rfl) (by kernel_rfl) ?_
     refine X.splitP (G := fun σ => L _ _ _ _ _ _ σ _ _) (((k : Nat) : Int) = 0) 38 (by kernel_rfl) (fun h243 => ?_) (fun h243 => ?_)
     ·refine L.runU [3, 4, 5] [6, 7, 8, 9, 10] [(39, .int .u8 (x144.toNat : Int)), (40, .bool (decide ((x144.toNat : Int) = 32))), (41, .bool (decide ((x144.toNat : Int) = 32)))] (by kernel_rfl) (by kernel_rfl) ?_
      refine X.splitP (G := fun σ => L _ _ _ _ _ _ σ _ _) ((x144.toNat : Int) = 32) 41 (by kernel_rfl) (fun h244 => ?_) (fun h244 => ?_)
      ·refine L.runU [6, 7, 8, 9, 10] [] [(42, undef), (43, undef), (44, .bool true), (45, .bool true), (32, .bool true)] (by kernel_rfl) (by kernel_rfl) ?_
       refine L.done ?_
       show S _ _ _ c88_n36 _ _ _ _
       refine S.condT (o := (Operand.tmp 32)) (x := c88_n37) (y := c88_n38) (by kernel_rfl) (by kernel_rfl) ?_
       refine S.skip (by kernel_rfl) ?_
       show S _ _ _ c88_n39 _ _ _ _
       refine S.condT (o := (Operand.tmp 32)) (x := c88_n40) (y := c88_n41) (by kernel_rfl) (by kernel_rfl) ?_
       refine S.reg (ops := o88_n40) (js := [0, 1, 2, 3]) (by kernel_rfl) (by kernel_rfl) ?_
       refine L.runU [0] [1, 2, 3] [(55, .slice a129 out.length cap130)] (by kernel_rfl) (by kernel_rfl) ?_
       refine L.newRow (fun b => .slice (some ⟨b, 0, none⟩) 1 1) [.int .u8 92] 5 (by kernel_rfl : lookAt _ _ _ _ = some ((Op.buildSlice 128 1 #[(0, (Operand.const (Value.int IntKind.u8 92)))]), some 56)) (by intro c e; cases e) (fun w => by kernel_rfl) ?_
       intro b245 w246 hs247 hz248 E249 B250
       have nm251 := not_mem_of_ge (b := b245) hM139 (by omega)
       have hE252 := hE140.and0 E249
       have := E249.size
       have Q253 := F135.step same E249 (by simp) no0
       have B254 := F137.eff0 E249
       have O255 := O138.step same E249 no0
       have A256 := A143.step same E249 no0
       have hM257 := hM139.eff E249
       refine L.append (K := Kd.byte) (e := 5) (base := w.heap.size) (bytes := 1) (M := [b112] ++ []) (v := .slice a129 out.length cap130) (xs := out) (ys := [(92 : UInt8)]) (a := some ⟨b245, 0, none⟩) (cap := 1) (by kernel_rfl : lookAt _ _ _ _ = some ((Op.call { callee := (Callee.builtin Builtin.append), args := #[(Operand.tmp 55), (Operand.tmp 56)], argTypes := #[128, 128] }), some 57)) (by kernel_rfl) (by kernel_rfl) (by kernel_rfl) (by kernel_rfl) O255 (Sl.one (K := Kd.byte) (x := (92 : UInt8)) B250 nm251 rfl) (hM257.sub (sDrop sSame)) (by (simp only [List.length_cons, List.length_nil, List.length_append, List.length_take, List.length_drop, List.length_map, List.length_replicate] <;> omega)) (by omega) hE252.size ?_
       intro v258 w259 O260 E261 hat262
       obtain ⟨a263, cap264, rfl⟩ := O260.slice
       have hat265 := hatN hat262
       have hE266 := hE252.andMem E261 (memOwn O255 (Nat.le_refl _))
       have := E261.size
       have nm268 := ninN nm136 Q253.lt (nTurn hat265 (nKeep same))
       have Q267 := Q253.step (nTurn hat265 (nKeep same)) E261 (fun h => nm136 (List.mem_append_left _ (h))) (fun _ h => List.mem_append_left _ (h))
       have B269 := B254.eff E261 (O255.apart (List.mem_append_left _ (List.mem_singleton.2 rfl)))
       have nm271 := ninN nm251 B250.lt (nTurn hat265 (nKeep same))
       have B270 := B250.eff E261 (fun h => nm251 (List.mem_append_left _ (h)))
       have hM272 : Mok (ob (.slice a263 ((out ++ [(92 : UInt8)]).length) cap264) ++ ([b112] ++ [])) w259 := hM257.step E261 (nTurn (fun b hb => .inr ((fun b hb => (O260.lt b hb).2) b hb)) (nKeep same))
       refine L.runU [3] [] [(4, .slice a263 ((out ++ [(92 : UInt8)]).length) cap264)] (by kernel_rfl) (by kernel_rfl) ?_
       refine L.done ?_
       show S _ _ _ c88_n42 _ _ _ _
       refine S.reg (ops := o88_n42) (js := [0, 1, 2, 3, 4]) (by kernel_rfl) (by kernel_rfl) ?_
       refine L.runU [0, 1] [2, 3, 4] [(58, .slice a263 ((out ++ [(92 : UInt8)]).length) cap264), (59, .int .u8 (x144.toNat : Int))] (by kernel_rfl) (by kernel_rfl) ?_
       refine L.newRow (fun b => .slice (some ⟨b, 0, none⟩) 1 1) [.int .u8 (x144.toNat : Int)] 5 (by kernel_rfl : lookAt _ _ _ _ = some ((Op.buildSlice 128 1 #[(0, (Operand.tmp 59))]), some 60)) (by intro c e; cases e) (fun w => by kernel_rfl) ?_
       intro b273 w274 hs275 hz276 E277 B278
       have nm279 := not_mem_of_ge (b := b273) hM272 (by omega)
       have hE280 := hE266.and0 E277
       have := E277.size
       have Q281 := Q267.step same E277 (by simp) no0
       have B282 := B269.eff0 E277
       have B283 := B270.eff0 E277
       have O284 := O260.step same E277 no0
       have hM285 := hM272.eff E277
       refine L.append (K := Kd.byte) (e := 5) (base := w.heap.size) (bytes := 1) (M := [b112] ++ []) (v := .slice a263 ((out ++ [(92 : UInt8)]).length) cap264) (xs := out ++ [(92 : UInt8)]) (ys := [x144]) (a := some ⟨b273, 0, none⟩) (cap := 1) (by kernel_rfl : lookAt _ _ _ _ = some ((Op.call { callee := (Callee.builtin Builtin.append), args := #[(Operand.tmp 58), (Operand.tmp 60)], argTypes := #[128, 128] }), some 61)) (by kernel_rfl) (by kernel_rfl) (by kernel_rfl) (by kernel_rfl) O284 (Sl.one (K := Kd.byte) (x := x144) B278 nm279 rfl) (hM285.sub (sDrop sSame)) (by (simp only [List.length_cons, List.length_nil, List.length_append, List.length_take, List.length_drop, List.length_map, List.length_replicate] <;> omega)) (by omega) hE280.size ?_
       intro v286 w287 O288 E289 hat290
       obtain ⟨a291, cap292, rfl⟩ := O288.slice
       have hat293 := hatN hat290
       have hE294 := hE280.andMem E289 (memOwn O284 (Nat.le_refl _))
       have := E289.size
       have nm296 := ninN nm268 Q281.lt (nTurn hat293 (nKeep same))
       have Q295 := Q281.step (nTurn hat293 (nKeep same)) E289 (fun h => nm268 (List.mem_append_left _ (h))) (fun _ h => List.mem_append_left _ (h))
       have B297 := B282.eff E289 (O284.apart (List.mem_append_left _ (List.mem_singleton.2 rfl)))
       have nm299 := ninN nm271 B283.lt (nTurn hat293 (nKeep same))
       have B298 := B283.eff E289 (fun h => nm271 (List.mem_append_left _ (h)))
       have nm301 := ninN nm279 B278.lt (nTurn hat293 (nKeep same))
       have B300 := B278.eff E289 (fun h => nm279 (List.mem_append_left _ (h)))
       have hM302 : Mok (ob (.slice a291 (((out ++ [(92 : UInt8)]) ++ [x144]).length) cap292) ++ ([b112] ++ [])) w287 := hM285.step E289 (nTurn (fun b hb => .inr ((fun b hb => (O288.lt b hb).2) b hb)) (nKeep same))
       refine L.runU [4] [] [(4, .slice a291 (((out ++ [(92 : UInt8)]) ++ [x144]).length) cap292)] (by kernel_rfl) (by kernel_rfl) ?_
       refine L.done ?_
       show S _ _ _ c88_n43 _ _ _ _
       refine S.reg (ops := o88_n43) (js := [0, 1]) (by kernel_rfl) (by kernel_rfl) ?_
       refine L.runU [0] [1] [(62, .int .i64 (IntKind.i64.wrap (((k : Nat) : Int) + 1)))] (by kernel_rfl) (by kernel_rfl) ?_
       refine X.re64 (G := fun σ => L _ _ _ _ _ _ σ _ _) (d := 62) (((k : Nat) : Int) + 1) (((k + 1 : Nat) : Int)) (by kernel_rfl) (by omega) ?_
       refine L.runU [1] [] [(11, .int .i64 (((k + 1 : Nat) : Int)))] (by kernel_rfl) (by kernel_rfl) ?_
       refine L.done ?_
       show ∃ m', m' < _ ∧ _
       refine ⟨l.length - (k + 1), ?_, ⟨k + 1, a291, cap292, (out ++ [(92 : UInt8)]) ++ [x144], rfl, (by omega), (by have hx := hx145; first | exact valT_snoc hout hx (by grind [escB, signB, hexD, getD_of]) | (rw [List.append_assoc]; exact valT_snoc hout hx (by grind [escB, signB, hexD, getD_of]))), (by simp only [List.length_append, List.length_cons, List.length_nil]; omega), Q295, nm296, B297, O288, hM302, hE294, (by omega), rfl, _, Holds.eq (l := [(0, sv l), (2, sv []), (3, .map (some b101)), (4, .slice a291 (((out ++ [(92 : UInt8)]) ++ [x144]).length) cap292), (9, .slice (some ⟨b112, 0, none⟩) l.length cap113), (10, .int .i64 (((l.length : Nat) : Int))), (11, .int .i64 (((k + 1 : Nat) : Int)))]) ⟨by kernel_rfl, by kernel_rfl, by kernel_rfl, by kernel_rfl, by kernel_rfl, by kernel_rfl, by kernel_rfl, trivial⟩⟩⟩
       omega
      ·refine L.runU [6, 7, 8, 9, 10] [] [(42, .int .u8 (x144.toNat : Int)), (43, .bool (decide ((x144.toNat : Int) = 35))), (44, .bool (decide ((x144.toNat : Int) = 35))), (45, .bool (decide ((x144.toNat : Int) = 35))), (32, .bool (decide ((x144.toNat : Int) = 35)))] (by kernel_rfl) (by kernel_rfl) ?_
       refine L.done ?_
       show S _ _ _ c88_n36 _ _ _ _
       refine S.condP ((x144.toNat : Int) = 35) (o := (Operand.tmp 32)) (x := c88_n37) (y := c88_n38) (by kernel_rfl) (by kernel_rfl) (fun h303 => ?_) (fun h303 => ?_)
       ·refine S.skip (by kernel_rfl) ?_
        show S _ _ _ c88_n39 _ _ _ _
        refine S.condP ((x144.toNat : Int) = 35) (o := (Operand.tmp 32)) (x := c88_n40) (y := c88_n41) (by kernel_rfl) (by kernel_rfl) (fun h304 => ?_) (fun h304 => ?_)
        ·refine S.reg (ops := o88_n40) (js := [0, 1, 2, 3]) (by kernel_rfl) (by kernel_rfl) ?_
         refine L.runU [0] [1, 2, 3] [(55, .slice a129 out.length cap130)] (by kernel_rfl) (by kernel_rfl) ?_
         refine L.newRow (fun b => .slice (some ⟨b, 0, none⟩) 1 1) [.int .u8 92] 5 (by kernel_rfl : lookAt _ _ _ _ = some ((Op.buildSlice 128 1 #[(0, (Operand.const (Value.int IntKind.u8 92)))]), some 56)) (by intro c e; cases e) (fun w => by kernel_rfl) ?_
         intro b305 w306 hs307 hz308 E309 B310
         have nm311 := not_mem_of_ge (b := b305) hM139 (by omega)
         have hE312 := hE140.and0 E309
         have := E309.size
         have Q313 := F135.step same E309 (by simp) no0
         have B314 := F137.eff0 E309
         have O315 := O138.step same E309 no0
         have A316 := A143.step same E309 no0
         have hM317 := hM139.eff E309
         refine L.append (K := Kd.byte) (e := 5) (base := w.heap.size) (bytes := 1) (M := [b112] ++ []) (v := .slice a129 out.length cap130) (xs := out) (ys := [(92 : UInt8)]) (a := some ⟨b305, 0, none⟩) (cap := 1) (by kernel_rfl : lookAt _ _ _ _ = some ((Op.call { callee := (Callee.builtin Builtin.append), args := #[(Operand.tmp 55), (Operand.tmp 56)], argTypes := #[128, 128] }), some 57)) (by kernel_rfl) (by kernel_rfl) (by kernel_rfl) (by kernel_rfl) O315 (Sl.one (K := Kd.byte) (x := (92 : UInt8)) B310 nm311 rfl) (hM317.sub (sDrop sSame)) (by (simp only [List.length_cons, List.length_nil, List.length_append, List.length_take, List.length_drop, List.length_map, List.length_replicate] <;> omega)) (by omega) hE312.size ?_
         intro v318 w319 O320 E321 hat322
         obtain ⟨a323, cap324, rfl⟩ := O320.slice
         have hat325 := hatN hat322
         have hE326 := hE312.andMem E321 (memOwn O315 (Nat.le_refl _))
         have := E321.size
         have nm328 := ninN nm136 Q313.lt (nTurn hat325 (nKeep same))
         have Q327 := Q313.step (nTurn hat325 (nKeep same)) E321 (fun h => nm136 (List.mem_append_left _ (h))) (fun _ h => List.mem_append_left _ (h))
         have B329 := B314.eff E321 (O315.apart (List.mem_append_left _ (List.mem_singleton.2 rfl)))
         have nm331 := ninN nm311 B310.lt (nTurn hat325 (nKeep same))
         have B330 := B310.eff E321 (fun h => nm311 (List.mem_append_left _ (h)))
         have hM332 : Mok (ob (.slice a323 ((out ++ [(92 : UInt8)]).length) cap324) ++ ([b112] ++ [])) w319 := hM317.step E321 (nTurn (fun b hb => .inr ((fun b hb => (O320.lt b hb).2) b hb)) (nKeep same))
         refine L.runU [3] [] [(4, .slice a323 ((out ++ [(92 : UInt8)]).length) cap324)] (by kernel_rfl) (by kernel_rfl) ?_
         refine L.done ?_
         show S _ _ _ c88_n42 _ _ _ _
         refine S.reg (ops := o88_n42) (js := [0, 1, 2, 3, 4]) (by kernel_rfl) (by kernel_rfl) ?_
         refine L.runU [0, 1] [2, 3, 4] [(58, .slice a323 ((out ++ [(92 : UInt8)]).length) cap324), (59, .int .u8 (x144.toNat : Int))] (by kernel_rfl) (by kernel_rfl) ?_
         refine L.newRow (fun b => .slice (some ⟨b, 0, none⟩) 1 1) [.int .u8 (x144.toNat : Int)] 5 (by kernel_rfl : lookAt _ _ _ _ = some ((Op.buildSlice 128 1 #[(0, (Operand.tmp 59))]), some 60)) (by intro c e; cases e) (fun w => by kernel_rfl) ?_
         intro b333 w334 hs335 hz336 E337 B338
         have nm339 := not_mem_of_ge (b := b333) hM332 (by omega)
         have hE340 := hE326.and0 E337
         have := E337.size
         have Q341 := Q327.step same E337 (by simp) no0
         have B342 := B329.eff0 E337
         have B343 := B330.eff0 E337
         have O344 := O320.step same E337 no0
         have hM345 := hM332.eff E337
         refine L.append (K := Kd.byte) (e := 5) (base := w.heap.size) (bytes := 1) (M := [b112] ++ []) (v := .slice a323 ((out ++ [(92 : UInt8)]).length) cap324) (xs := out ++ [(92 : UInt8)]) (ys := [x144]) (a := some ⟨b333, 0, none⟩) (cap := 1) (by kernel_rfl : lookAt _ _ _ _ = some ((Op.call { callee := (Callee.builtin Builtin.append), args := #[(Operand.tmp 58), (Operand.tmp 60)], argTypes := #[128, 128] }), some 61)) (by kernel_rfl) (by kernel_rfl) (by kernel_rfl) (by kernel_rfl) O344 (Sl.one (K := Kd.byte) (x := x144) B338 nm339 rfl) (hM345.sub (sDrop sSame)) (by (simp only [List.length_cons, List.length_nil, List.length_append, List.length_take, List.length_drop, List.length_map, List.length_replicate] <;> omega)) (by omega) hE340.size ?_
         intro v346 w347 O348 E349 hat350
         obtain ⟨a351, cap352, rfl⟩ := O348.slice
         have hat353 := hatN hat350
         have hE354 := hE340.andMem E349 (memOwn O344 (Nat.le_refl _))
         have := E349.size
         have nm356 := ninN nm328 Q341.lt (nTurn hat353 (nKeep same))
         have Q355 := Q341.step (nTurn hat353 (nKeep same)) E349 (fun h => nm328 (List.mem_append_left _ (h))) (fun _ h => List.mem_append_left _ (h))
         have B357 := B342.eff E349 (O344.apart (List.mem_append_left _ (List.mem_singleton.2 rfl)))
         have nm359 := ninN nm331 B343.lt (nTurn hat353 (nKeep same))
         have B358 := B343.eff E349 (fun h => nm331 (List.mem_append_left _ (h)))
         have nm361 := ninN nm339 B338.lt (nTurn hat353 (nKeep same))
         have B360 := B338.eff E349 (fun h => nm339 (List.mem_append_left _ (h)))
         have hM362 : Mok (ob (.slice a351 (((out ++ [(92 : UInt8)]) ++ [x144]).length) cap352) ++ ([b112] ++ [])) w347 := hM345.step E349 (nTurn (fun b hb => .inr ((fun b hb => (O348.lt b hb).2) b hb)) (nKeep same))
         refine L.runU [4] [] [(4, .slice a351 (((out ++ [(92 : UInt8)]) ++ [x144]).length) cap352)] (by kernel_rfl) (by kernel_rfl) ?_
         refine L.done ?_
         show S _ _ _ c88_n43 _ _ _ _
         refine S.reg (ops := o88_n43) (js := [0, 1]) (by kernel_rfl) (by kernel_rfl) ?_
         refine L.runU [0] [1] [(62, .int .i64 (IntKind.i64.wrap (((k : Nat) : Int) + 1)))] (by kernel_rfl) (by kernel_rfl) ?_
         refine X.re64 (G := fun σ => L _ _ _ _ _ _ σ _ _) (d := 62) (((k : Nat) : Int) + 1) (((k + 1 : Nat) : Int)) (by kernel_rfl) (by omega) ?_
         refine L.runU [1] [] [(11, .int .i64 (((k + 1 : Nat) : Int)))] (by kernel_rfl) (by kernel_rfl) ?_
         refine L.done ?_
         show ∃ m', m' < _ ∧ _
         refine ⟨l.length - (k + 1), ?_, ⟨k + 1, a351, cap352, (out ++ [(92 : UInt8)]) ++ [x144], rfl, (by omega), (by have hx := hx145; first | exact valT_snoc hout hx (by grind [escB, signB, hexD, getD_of]) | (rw [List.append_assoc]; exact valT_snoc hout hx (by grind [escB, signB, hexD, getD_of]))), (by simp only [List.length_append, List.length_cons, List.length_nil]; omega), Q355, nm356, B357, O348, hM362, hE354, (by omega), rfl, _, Holds.eq (l := [(0, sv l), (2, sv []), (3, .map (some b101)), (4, .slice a351 (((out ++ [(92 : UInt8)]) ++ [x144]).length) cap352), (9, .slice (some ⟨b112, 0, none⟩) l.length cap113), (10, .int .i64 (((l.length : Nat) : Int))), (11, .int .i64 (((k + 1 : Nat) : Int)))]) ⟨by kernel_rfl, by kernel_rfl, by kernel_rfl, by kernel_rfl, by kernel_rfl, by kernel_rfl, by kernel_rfl, trivial⟩⟩⟩
         omega
        ·refine S.skip (by kernel_rfl) ?_
         show S _ _ _ c88_n42 _ _ _ _
         refine S.reg (ops := o88_n42) (js := [0, 1, 2, 3, 4]) (by kernel_rfl) (by kernel_rfl) ?_
         refine L.runU [0, 1] [2, 3, 4] [(58, .slice a129 out.length cap130), (59, .int .u8 (x144.toNat : Int))] (by kernel_rfl) (by kernel_rfl) ?_
         refine L.newRow (fun b => .slice (some ⟨b, 0, none⟩) 1 1) [.int .u8 (x144.toNat : Int)] 5 (by kernel_rfl : lookAt _ _ _ _ = some ((Op.buildSlice 128 1 #[(0, (Operand.tmp 59))]), some 60)) (by intro c e; cases e) (fun w => by kernel_rfl) ?_
         intro b363 w364 hs365 hz366 E367 B368
         have nm369 := not_mem_of_ge (b := b363) hM139 (by omega)
         have hE370 := hE140.and0 E367
         have := E367.size
         have Q371 := F135.step same E367 (by simp) no0
         have B372 := F137.eff0 E367
         have O373 := O138.step same E367 no0
         have A374 := A143.step same E367 no0
         have hM375 := hM139.eff E367
         refine L.append (K := Kd.byte) (e := 5) (base := w.heap.size) (bytes := 1) (M := [b112] ++ []) (v := .slice a129 out.length cap130) (xs := out) (ys := [x144]) (a := some ⟨b363, 0, none⟩) (cap := 1) (by kernel_rfl : lookAt _ _ _ _ = some ((Op.call { callee := (Callee.builtin Builtin.append), args := #[(Operand.tmp 58), (Operand.tmp 60)], argTypes := #[128, 128] }), some 61)) (by kernel_rfl) (by kernel_rfl) (by kernel_rfl) (by kernel_rfl) O373 (Sl.one (K := Kd.byte) (x := x144) B368 nm369 rfl) (hM375.sub (sDrop sSame)) (by omega) (by omega) hE370.size ?_
         intro v376 w377 O378 E379 hat380
         obtain ⟨a381, cap382, rfl⟩ := O378.slice
         have hat383 := hatN hat380
         have hE384 := hE370.andMem E379 (memOwn O373 (Nat.le_refl _))
         have := E379.size
         have nm386 := ninN nm136 Q371.lt (nTurn hat383 (nKeep same))
         have Q385 := Q371.step (nTurn hat383 (nKeep same)) E379 (fun h => nm136 (List.mem_append_left _ (h))) (fun _ h => List.mem_append_left _ (h))
         have B387 := B372.eff E379 (O373.apart (List.mem_append_left _ (List.mem_singleton.2 rfl)))
         have nm389 := ninN nm369 B368.lt (nTurn hat383 (nKeep same))
         have B388 := B368.eff E379 (fun h => nm369 (List.mem_append_left _ (h)))
         have hM390 : Mok (ob (.slice a381 ((out ++ [x144]).length) cap382) ++ ([b112] ++ [])) w377 := hM375.step E379 (nTurn (fun b hb => .inr ((fun b hb => (O378.lt b hb).2) b hb)) (nKeep same))
         refine L.runU [4] [] [(4, .slice a381 ((out ++ [x144]).length) cap382)] (by kernel_rfl) (by kernel_rfl) ?_
         refine L.done ?_
         show S _ _ _ c88_n43 _ _ _ _
         refine S.reg (ops := o88_n43) (js := [0, 1]) (by kernel_rfl) (by kernel_rfl) ?_
         refine L.runU [0] [1] [(62, .int .i64 (IntKind.i64.wrap (((k : Nat) : Int) + 1)))] (by kernel_rfl) (by kernel_rfl) ?_
         refine X.re64 (G := fun σ => L _ _ _ _ _ _ σ _ _) (d := 62) (((k : Nat) : Int) + 1) (((k + 1 : Nat) : Int)) (by kernel_rfl) (by omega) ?_
         refine L.runU [1] [] [(11, .int .i64 (((k + 1 : Nat) : Int)))] (by kernel_rfl) (by kernel_rfl) ?_
         refine L.done ?_
         show ∃ m', m' < _ ∧ _
         refine ⟨l.length - (k + 1), ?_, ⟨k + 1, a381, cap382, out ++ [x144], rfl, (by omega), (by have hx := hx145; first | exact valT_snoc hout hx (by grind [escB, signB, hexD, getD_of]) | (rw [List.append_assoc]; exact valT_snoc hout hx (by grind [escB, signB, hexD, getD_of]))), (by simp only [List.length_append, List.length_cons, List.length_nil]; omega), Q385, nm386, B387, O378, hM390, hE384, (by omega), rfl, _, Holds.eq (l := [(0, sv l), (2, sv []), (3, .map (some b101)), (4, .slice a381 ((out ++ [x144]).length) cap382), (9, .slice (some ⟨b112, 0, none⟩) l.length cap113), (10, .int .i64 (((l.length : Nat) : Int))), (11, .int .i64 (((k + 1 : Nat) : Int)))]) ⟨by kernel_rfl, by kernel_rfl, by kernel_rfl, by kernel_rfl, by kernel_rfl, by kernel_rfl, by kernel_rfl, trivial⟩⟩⟩
         omega
       ·refine S.reg (ops := o88_n38) (js := [0, 1, 2, 3, 4, 5, 6, 7, 8, 9]) (by kernel_rfl) (by kernel_rfl) ?_
        refine L.runU [0, 1, 2, 3] [4, 5, 6, 7, 8, 9] [(46, .int .i64 (((k : Nat) : Int))), (47, sv l), (48, .int .i64 (((l.length : Nat) : Int))), (49, .int .i64 (IntKind.i64.wrap (((l.length : Nat) : Int) - 1)))] (by kernel_rfl) (by kernel_rfl) ?_
        refine X.re64 (G := fun σ => L _ _ _ _ _ _ σ _ _) (d := 49) (((l.length : Nat) : Int) - 1) (((l.length : Nat) : Int) - 1) (by kernel_rfl) (by omega) ?_
        refine L.runU [4, 5] [6, 7, 8, 9] [(50, .bool (decide (((k : Nat) : Int) = ((l.length : Nat) : Int) - 1))), (51, .bool (decide (((k : Nat) : Int) = ((l.length : Nat) : Int) - 1)))] (by kernel_rfl) (by kernel_rfl) ?_
        refine X.splitP (G := fun σ => L _ _ _ _ _ _ σ _ _) (((k : Nat) : Int) = ((l.length : Nat) : Int) - 1) 51 (by kernel_rfl) (fun h391 => ?_) (fun h391 => ?_)
        ·refine L.runU [6, 7, 8, 9] [] [(52, .int .u8 (x144.toNat : Int)), (53, .bool (decide ((x144.toNat : Int) = 32))), (54, .bool (decide ((x144.toNat : Int) = 32))), (32, .bool (decide ((x144.toNat : Int) = 32)))] (by kernel_rfl) (by kernel_rfl) ?_
         refine L.done ?_
         show S _ _ _ c88_n39 _ _ _ _
         refine S.condP ((x144.toNat : Int) = 32) (o := (Operand.tmp 32)) (x := c88_n40) (y := c88_n41) (by kernel_rfl) (by kernel_rfl) (fun h392 => ?_) (fun h392 => ?_)
         ·refine S.reg (ops := o88_n40) (js := [0, 1, 2, 3]) (by kernel_rfl) (by kernel_rfl) ?_
          refine L.runU [0] [1, 2, 3] [(55, .slice a129 out.length cap130)] (by kernel_rfl) (by kernel_rfl) ?_
          refine L.newRow (fun b => .slice (some ⟨b, 0, none⟩) 1 1) [.int .u8 92] 5 (by kernel_rfl : lookAt _ _ _ _ = some ((Op.buildSlice 128 1 #[(0, (Operand.const (Value.int IntKind.u8 92)))]), some 56)) (by intro c e; cases e) (fun w => by kernel_rfl) ?_
          intro b393 w394 hs395 hz396 E397 B398
          have nm399 := not_mem_of_ge (b := b393) hM139 (by omega)
          have hE400 := hE140.and0 E397
          have := E397.size
          have Q401 := F135.step same E397 (by simp) no0
          have B402 := F137.eff0 E397
          have O403 := O138.step same E397 no0
          have A404 := A143.step same E397 no0
          have hM405 := hM139.eff E397
          refine L.append (K := Kd.byte) (e := 5) (base := w.heap.size) (bytes := 1) (M := [b112] ++ []) (v := .slice a129 out.length cap130) (xs := out) (ys := [(92 : UInt8)]) (a := some ⟨b393, 0, none⟩) (cap := 1) (by kernel_rfl : lookAt _ _ _ _ = some ((Op.call { callee := (Callee.builtin Builtin.append), args := #[(Operand.tmp 55), (Operand.tmp 56)], argTypes := #[128, 128] }), some 57)) (by kernel_rfl) (by kernel_rfl) (by kernel_rfl) (by kernel_rfl) O403 (Sl.one (K := Kd.byte) (x := (92 : UInt8)) B398 nm399 rfl) (hM405.sub (sDrop sSame)) (by omega) (by omega) hE400.size ?_
          intro v406 w407 O408 E409 hat410
          obtain ⟨a411, cap412, rfl⟩ := O408.slice
          have hat413 := hatN hat410
          have hE414 := hE400.andMem E409 (memOwn O403 (Nat.le_refl _))
          have := E409.size
          have nm416 := ninN nm136 Q401.lt (nTurn hat413 (nKeep same))
          have Q415 := Q401.step (nTurn hat413 (nKeep same)) E409 (fun h => nm136 (List.mem_append_left _ (h))) (fun _ h => List.mem_append_left _ (h))
          have B417 := B402.eff E409 (O403.apart (List.mem_append_left _ (List.mem_singleton.2 rfl)))
          have nm419 := ninN nm399 B398.lt (nTurn hat413 (nKeep same))
          have B418 := B398.eff E409 (fun h => nm399 (List.mem_append_left _ (h)))
          have hM420 : Mok (ob (.slice a411 ((out ++ [(92 : UInt8)]).length) cap412) ++ ([b112] ++ [])) w407 := hM405.step E409 (nTurn (fun b hb => .inr ((fun b hb => (O408.lt b hb).2) b hb)) (nKeep same))
          refine L.runU [3] [] [(4, .slice a411 ((out ++ [(92 : UInt8)]).length) cap412)] (by kernel_rfl) (by kernel_rfl) ?_
          refine L.done ?_
          show S _ _ _ c88_n42 _ _ _ _
          refine S.reg (ops := o88_n42) (js := [0, 1, 2, 3, 4]) (by kernel_rfl) (by kernel_rfl) ?_
          refine L.runU [0, 1] [2, 3, 4] [(58, .slice a411 ((out ++ [(92 : UInt8)]).length) cap412), (59, .int .u8 (x144.toNat : Int))] (by kernel_rfl) (by kernel_rfl) ?_
          refine L.newRow (fun b => .slice (some ⟨b, 0, none⟩) 1 1) [.int .u8 (x144.toNat : Int)] 5 (by kernel_rfl : lookAt _ _ _ _ = some ((Op.buildSlice 128 1 #[(0, (Operand.tmp 59))]), some 60)) (by intro c e; cases e) (fun w => by kernel_rfl) ?_
          intro b421 w422 hs423 hz424 E425 B426
          have nm427 := not_mem_of_ge (b := b421) hM420 (by omega)
          have hE428 := hE414.and0 E425
          have := E425.size
          have Q429 := Q415.step same E425 (by simp) no0
          have B430 := B417.eff0 E425
          have B431 := B418.eff0 E425
          have O432 := O408.step same E425 no0
          have hM433 := hM420.eff E425
          refine L.append (K := Kd.byte) (e := 5) (base := w.heap.size) (bytes := 1) (M := [b112] ++ []) (v := .slice a411 ((out ++ [(92 : UInt8)]).length) cap412) (xs := out ++ [(92 : UInt8)]) (ys := [x144]) (a := some ⟨b421, 0, none⟩) (cap := 1) (by kernel_rfl : lookAt _ _ _ _ = some ((Op.call { callee := (Callee.builtin Builtin.append), args := #[(Operand.tmp 58), (Operand.tmp 60)], argTypes := #[128, 128] }), some 61)) (by kernel_rfl) (by kernel_rfl) (by kernel_rfl) (by kernel_rfl) O432 (Sl.one (K := Kd.byte) (x := x144) B426 nm427 rfl) (hM433.sub (sDrop sSame)) (by omega) (by omega) hE428.size ?_
          intro v434 w435 O436 E437 hat438
          obtain ⟨a439, cap440, rfl⟩ := O436.slice
          have hat441 := hatN hat438
          have hE442 := hE428.andMem E437 (memOwn O432 (Nat.le_refl _))
          have := E437.size
          have nm444 := ninN nm416 Q429.lt (nTurn hat441 (nKeep same))
          have Q443 := Q429.step (nTurn hat441 (nKeep same)) E437 (fun h => nm416 (List.mem_append_left _ (h))) (fun _ h => List.mem_append_left _ (h))
          have B445 := B430.eff E437 (O432.apart (List.mem_append_left _ (List.mem_singleton.2 rfl)))
          have nm447 := ninN nm419 B431.lt (nTurn hat441 (nKeep same))
          have B446 := B431.eff E437 (fun h => nm419 (List.mem_append_left _ (h)))
          have nm449 := ninN nm427 B426.lt (nTurn hat441 (nKeep same))
          have B448 := B426.eff E437 (fun h => nm427 (List.mem_append_left _ (h)))
          have hM450 : Mok (ob (.slice a439 (((out ++ [(92 : UInt8)]) ++ [x144]).length) cap440) ++ ([b112] ++ [])) w435 := hM433.step E437 (nTurn (fun b hb => .inr ((fun b hb => (O436.lt b hb).2) b hb)) (nKeep same))
          refine L.runU [4] [] [(4, .slice a439 (((out ++ [(92 : UInt8)]) ++ [x144]).length) cap440)] (by kernel_rfl) (by kernel_rfl) ?_
          refine L.done ?_
          show S _ _ _ c88_n43 _ _ _ _
          refine S.reg (ops := o88_n43) (js := [0, 1]) (by kernel_rfl) (by kernel_rfl) ?_
          refine L.runU [0] [1] [(62, .int .i64 (IntKind.i64.wrap (((k : Nat) : Int) + 1)))] (by kernel_rfl) (by kernel_rfl) ?_
          refine X.re64 (G := fun σ => L _ _ _ _ _ _ σ _ _) (d := 62) (((k : Nat) : Int) + 1) (((k + 1 : Nat) : Int)) (by kernel_rfl) (by omega) ?_
          refine L.runU [1] [] [(11, .int .i64 (((k + 1 : Nat) : Int)))] (by kernel_rfl) (by kernel_rfl) ?_
          refine L.done ?_
          show ∃ m', m' < _ ∧ _
          refine ⟨l.length - (k + 1), ?_, ⟨k + 1, a439, cap440, (out ++ [(92 : UInt8)]) ++ [x144], rfl, (by omega), (by have hx := hx145; first | exact valT_snoc hout hx (by grind [escB, signB, hexD, getD_of]) | (rw [List.append_assoc]; exact valT_snoc hout hx (by grind [escB, signB, hexD, getD_of]))), (by simp only [List.length_append, List.length_cons, List.length_nil]; omega), Q443, nm444, B445, O436, hM450, hE442, (by omega), rfl, _, Holds.eq (l := [(0, sv l), (2, sv []), (3, .map (some b101)), (4, .slice a439 (((out ++ [(92 : UInt8)]) ++ [x144]).length) cap440), (9, .slice (some ⟨b112, 0, none⟩) l.length cap113), (10, .int .i64 (((l.length : Nat) : Int))), (11, .int .i64 (((k + 1 : Nat) : Int)))]) ⟨by kernel_rfl, by kernel_rfl, by kernel_rfl, by kernel_rfl, by kernel_rfl, by kernel_rfl, by kernel_rfl, trivial⟩⟩⟩
          omega
         ·refine S.skip (by kernel_rfl) ?_
          show S _ _ _ c88_n42 _ _ _ _
          refine S.reg (ops := o88_n42) (js := [0, 1, 2, 3, 4]) (by kernel_rfl) (by kernel_rfl) ?_
          refine L.runU [0, 1] [2, 3, 4] [(58, .slice a129 out.length cap130), (59, .int .u8 (x144.toNat : Int))] (by kernel_rfl) (by kernel_rfl) ?_
          refine L.newRow (fun b => .slice (some ⟨b, 0, none⟩) 1 1) [.int .u8 (x144.toNat : Int)] 5 (by kernel_rfl : lookAt _ _ _ _ = some ((Op.buildSlice 128 1 #[(0, (Operand.tmp 59))]), some 60)) (by intro c e; cases e) (fun w => by kernel_rfl) ?_
          intro b451 w452 hs453 hz454 E455 B456
          have nm457 := not_mem_of_ge (b := b451) hM139 (by omega)
          have hE458 := hE140.and0 E455
          have := E455.size
          have Q459 := F135.step same E455 (by simp) no0
          have B460 := F137.eff0 E455
          have O461 := O138.step same E455 no0
          have A462 := A143.step same E455 no0
          have hM463 := hM139.eff E455
          refine L.append (K := Kd.byte) (e := 5) (base := w.heap.size) (bytes := 1) (M := [b112] ++ []) (v := .slice a129 out.length cap130) (xs := out) (ys := [x144]) (a := some ⟨b451, 0, none⟩) (cap := 1) (by kernel_rfl : lookAt _ _ _ _ = some ((Op.call { callee := (Callee.builtin Builtin.append), args := #[(Operand.tmp 58), (Operand.tmp 60)], argTypes := #[128, 128] }), some 61)) (by kernel_rfl) (by kernel_rfl) (by kernel_rfl) (by kernel_rfl) O461 (Sl.one (K := Kd.byte) (x := x144) B456 nm457 rfl) (hM463.sub (sDrop sSame)) (by (simp only [List.length_cons, List.length_nil, List.length_append, List.length_take, List.length_drop, List.length_map, List.length_replicate] <;> omega)) (by omega) hE458.size ?_
          intro v464 w465 O466 E467 hat468
          obtain ⟨a469, cap470, rfl⟩ := O466.slice
          have hat471 := hatN hat468
          have hE472 := hE458.andMem E467 (memOwn O461 (Nat.le_refl _))
          have := E467.size
          have nm474 := ninN nm136 Q459.lt (nTurn hat471 (nKeep same))
          have Q473 := Q459.step (nTurn hat471 (nKeep same)) E467 (fun h => nm136 (List.mem_append_left _ (h))) (fun _ h => List.mem_append_left _ (h))
          have B475 := B460.eff E467 (O461.apart (List.mem_append_left _ (List.mem_singleton.2 rfl)))
          have nm477 := ninN nm457 B456.lt (nTurn hat471 (nKeep same))
          have B476 := B456.eff E467 (fun h => nm457 (List.mem_append_left _ (h)))
          have hM478 : Mok (ob (.slice a469 ((out ++ [x144]).length) cap470) ++ ([b112] ++ [])) w465 := hM463.step E467 (nTurn (fun b hb => .inr ((fun b hb => (O466.lt b hb).2) b hb)) (nKeep same))
          refine L.runU [4] [] [(4, .slice a469 ((out ++ [x144]).length) cap470)] (by kernel_rfl) (by kernel_rfl) ?_
          refine L.done ?_
          show S _ _ _ c88_n43 _ _ _ _
          refine S.reg (ops := o88_n43) (js := [0, 1]) (by kernel_rfl) (by kernel_rfl) ?_
          refine L.runU [0] [1] [(62, .int .i64 (IntKind.i64.wrap (((k : Nat) : Int) + 1)))] (by kernel_rfl) (by kernel_rfl) ?_
          refine X.re64 (G := fun σ => L _ _ _ _ _ _ σ _ _) (d := 62) (((k : Nat) : Int) + 1) (((k + 1 : Nat) : Int)) (by kernel_rfl) (by omega) ?_
          refine L.runU [1] [] [(11, .int .i64 (((k + 1 : Nat) : Int)))] (by kernel_rfl) (by kernel_rfl) ?_
          refine L.done ?_
          show ∃ m', m' < _ ∧ _
          refine ⟨l.length - (k + 1), ?_, ⟨k + 1, a469, cap470, out ++ [x144], rfl, (by omega), (by have hx := hx145; first | exact valT_snoc hout hx (by grind [escB, signB, hexD, getD_of]) | (rw [List.append_assoc]; exact valT_snoc hout hx (by grind [escB, signB, hexD, getD_of]))), (by simp only [List.length_append, List.length_cons, List.length_nil]; omega), Q473, nm474, B475, O466, hM478, hE472, (by omega), rfl, _, Holds.eq (l := [(0, sv l), (2, sv []), (3, .map (some b101)), (4, .slice a469 ((out ++ [x144]).length) cap470), (9, .slice (some ⟨b112, 0, none⟩) l.length cap113), (10, .int .i64 (((l.length : Nat) : Int))), (11, .int .i64 (((k + 1 : Nat) : Int)))]) ⟨by kernel_rfl, by kernel_rfl, by kernel_rfl, by kernel_rfl, by kernel_rfl, by kernel_rfl, by kernel_rfl, trivial⟩⟩⟩
          omega
        ·refine L.runU [6, 7, 8, 9] [] [(52, undef), (53, undef), (54, .bool false), (32, .bool false)] (by kernel_rfl) (by kernel_rfl) ?_
         refine L.done ?_
         show S _ _ _ c88_n39 _ _ _ _
         refine S.condF (o := (Operand.tmp 32)) (x := c88_n40) (y := c88_n41) (by kernel_rfl) (by kernel_rfl) ?_
         refine S.skip (by kernel_rfl) ?_
         show S _ _ _ c88_n42 _ _ _ _
         refine S.reg (ops := o88_n42) (js := [0, 1, 2, 3, 4]) (by kernel_rfl) (by kernel_rfl) ?_
         refine L.runU [0, 1] [2, 3, 4] [(58, .slice a129 out.length cap130), (59, .int .u8 (x144.toNat : Int))] (by kernel_rfl) (by kernel_rfl) ?_
         refine L.newRow (fun b => .slice (some ⟨b, 0, none⟩) 1 1) [.int .u8 (x144.toNat : Int)] 5 (by kernel_rfl : lookAt _ _ _ _ = some ((Op.buildSlice 128 1 #[(0, (Operand.tmp 59))]), some 60)) (by intro c e; cases e) (fun w => by kernel_rfl) ?_
         intro b479 w480 hs481 hz482 E483 B484
         have nm485 := not_mem_of_ge (b := b479) hM139 (by omega)
         have hE486 := hE140.and0 E483
         have := E483.size
         have Q487 := F135.step same E483 (by simp) no0
         have B488 := F137.eff0 E483
         have O489 := O138.step same E483 no0
         have A490 := A143.step same E483 no0
         have hM491 := hM139.eff E483
         refine L.append (K := Kd.byte) (e := 5) (base := w.heap.size) (bytes := 1) (M := [b112] ++ []) (v := .slice a129 out.length cap130) (xs := out) (ys := [x144]) (a := some ⟨b479, 0, none⟩) (cap := 1) (by kernel_rfl : lookAt _ _ _ _ = some ((Op.call { callee := (Callee.builtin Builtin.append), args := #[(Operand.tmp 58), (Operand.tmp 60)], argTypes := #[128, 128] }), some 61)) (by kernel_rfl) (by kernel_rfl) (by kernel_rfl) (by kernel_rfl) O489 (Sl.one (K := Kd.byte) (x := x144) B484 nm485 rfl) (hM491.sub (sDrop sSame)) (by (simp only [List.length_cons, List.length_nil, List.length_append, List.length_take, List.length_drop, List.length_map, List.length_replicate] <;> omega)) (by omega) hE486.size ?_
         intro v492 w493 O494 E495 hat496
         obtain ⟨a497, cap498, rfl⟩ := O494.slice
         have hat499 := hatN hat496
         have hE500 := hE486.andMem E495 (memOwn O489 (Nat.le_refl _))
         have := E495.size
         have nm502 := ninN nm136 Q487.lt (nTurn hat499 (nKeep same))
         have Q501 := Q487.step (nTurn hat499 (nKeep same)) E495 (fun h => nm136 (List.mem_append_left _ (h))) (fun _ h => List.mem_append_left _ (h))
         have B503 := B488.eff E495 (O489.apart (List.mem_append_left _ (List.mem_singleton.2 rfl)))
         have nm505 := ninN nm485 B484.lt (nTurn hat499 (nKeep same))
         have B504 := B484.eff E495 (fun h => nm485 (List.mem_append_left _ (h)))
         have hM506 : Mok (ob (.slice a497 ((out ++ [x144]).length) cap498) ++ ([b112] ++ [])) w493 := hM491.step E495 (nTurn (fun b hb => .inr ((fun b hb => (O494.lt b hb).2) b hb)) (nKeep same))
         refine L.runU [4] [] [(4, .slice a497 ((out ++ [x144]).length) cap498)] (by kernel_rfl) (by kernel_rfl) ?_
         refine L.done ?_
         show S _ _ _ c88_n43 _ _ _ _
         refine S.reg (ops := o88_n43) (js := [0, 1]) (by kernel_rfl) (by kernel_rfl) ?_
         refine L.runU [0] [1] [(62, .int .i64 (IntKind.i64.wrap (((k : Nat) : Int) + 1)))] (by kernel_rfl) (by kernel_rfl) ?_
         refine X.re64 (G := fun σ => L _ _ _ _ _ _ σ _ _) (d := 62) (((k : Nat) : Int) + 1) (((k + 1 : Nat) : Int)) (by kernel_rfl) (by omega) ?_
         refine L.runU [1] [] [(11, .int .i64 (((k + 1 : Nat) : Int)))] (by kernel_rfl) (by kernel_rfl) ?_
         refine L.done ?_
         show ∃ m', m' < _ ∧ _
         refine ⟨l.length - (k + 1), ?_, ⟨k + 1, a497, cap498, out ++ [x144], rfl, (by omega), (by have hx := hx145; first | exact valT_snoc hout hx (by grind [escB, signB, hexD, getD_of]) | (rw [List.append_assoc]; exact valT_snoc hout hx (by grind [escB, signB, hexD, getD_of]))), (by simp only [List.length_append, List.length_cons, List.length_nil]; omega), Q501, nm502, B503, O494, hM506, hE500, (by omega), rfl, _, Holds.eq (l := [(0, sv l), (2, sv []), (3, .map (some b101)), (4, .slice a497 ((out ++ [x144]).length) cap498), (9, .slice (some ⟨b112, 0, none⟩) l.length cap113), (10, .int .i64 (((l.length : Nat) : Int))), (11, .int .i64 (((k + 1 : Nat) : Int)))]) ⟨by kernel_rfl, by kernel_rfl, by kernel_rfl, by kernel_rfl, by kernel_rfl, by kernel_rfl, by kernel_rfl, trivial⟩⟩⟩
         omega
     ·refine L.runU [3, 4, 5, 6, 7, 8, 9, 10] [] [(39, undef), (40, undef), (41, undef), (42, undef), (43, undef), (44, undef), (45, .bool false), (32, .bool false)] (by kernel_rfl) (by kernel_rfl) ?_
      refine L.done ?_
      show S _ _ _ c88_n36 _ _ _ _
      refine S.condF (o := (Operand.tmp 32)) (x := c88_n37) (y := c88_n38) (by kernel_rfl) (by kernel_rfl) ?_
      refine S.reg (ops := o88_n38) (js := [0, 1, 2, 3, 4, 5, 6, 7, 8, 9]) (by kernel_rfl) (by kernel_rfl) ?_
      refine L.runU [0, 1, 2, 3] [4, 5, 6, 7, 8, 9] [(46, .int .i64 (((k : Nat) : Int))), (47, sv l), (48, .int .i64 (((l.length : Nat) : Int))), (49, .int .i64 (IntKind.i64.wrap (((l.length : Nat) : Int) - 1)))] (by kernel_rfl) (by kernel_rfl) ?_
      refine X.re64 (G := fun σ => L _ _ _ _ _ _ σ _ _) (d := 49) (((l.length : Nat) : Int) - 1) (((l.length : Nat) : Int) - 1) (by kernel_rfl) (by omega) ?_
      refine L.runU [4, 5] [6, 7, 8, 9] [(50, .bool (decide (((k : Nat) : Int) = ((l.length : Nat) : Int) - 1))), (51, .bool (decide (((k : Nat) : Int) = ((l.length : Nat) : Int) - 1)))] (by kernel_rfl) (by kernel_rfl) ?_
      refine X.splitP (G := fun σ => L _ _ _ _ _ _ σ _ _) (((k : Nat) : Int) = ((l.length : Nat) : Int) - 1) 51 (by kernel_rfl) (fun h507 => ?_) (fun h507 => ?_)
      ·refine L.runU [6, 7, 8, 9] [] [(52, .int .u8 (x144.toNat : Int)), (53, .bool (decide ((x144.toNat : Int) = 32))), (54, .bool (decide ((x144.toNat : Int) = 32))), (32, .bool (decide ((x144.toNat : Int) = 32)))] (by kernel_rfl) (by kernel_rfl) ?_
       refine L.done ?_
       show S _ _ _ c88_n39 _ _ _ _
       refine S.condP ((x144.toNat : Int) = 32) (o := (Operand.tmp 32)) (x := c88_n40) (y := c88_n41) (by kernel_rfl) (by kernel_rfl) (fun h508 => ?_) (fun h508 => ?_)
       ·refine S.reg (ops := o88_n40) (js := [0, 1, 2, 3]) (by kernel_rfl) (by kernel_rfl) ?_
        refine L.runU [0] [1, 2, 3] [(55, .slice a129 out.length cap130)] (by kernel_rfl) (by kernel_rfl) ?_
        refine L.newRow (fun b => .slice (some ⟨b, 0, none⟩) 1 1) [.int .u8 92] 5 (by kernel_rfl : lookAt _ _ _ _ = some ((Op.buildSlice 128 1 #[(0, (Operand.const (Value.int IntKind.u8 92)))]), some 56)) (by intro c e; cases e) (fun w => by kernel_rfl) ?_
        intro b509 w510 hs511 hz512 E513 B514
        have nm515 := not_mem_of_ge (b := b509) hM139 (by omega)
        have hE516 := hE140.and0 E513
        have := E513.size
        have Q517 := F135.step same E513 (by simp) no0
        have B518 := F137.eff0 E513
        have O519 := O138.step same E513 no0
        have A520 := A143.step same E513 no0
        have hM521 := hM139.eff E513
        refine L.append (K := Kd.byte) (e := 5) (base := w.heap.size) (bytes := 1) (M := [b112] ++ []) (v := .slice a129 out.length cap130) (xs := out) (ys := [(92 : UInt8)]) (a := some ⟨b509, 0, none⟩) (cap := 1) (by kernel_rfl : lookAt _ _ _ _ = some ((Op.call { callee := (Callee.builtin Builtin.append), args := #[(Operand.tmp 55), (Operand.tmp 56)], argTypes := #[128, 128] }), some 57)) (by kernel_rfl) (by kernel_rfl) (by kernel_rfl) (by kernel_rfl) O519 (Sl.one (K := Kd.byte) (x := (92 : UInt8)) B514 nm515 rfl) (hM521.sub (sDrop sSame)) (by (simp only [List.length_cons, List.length_nil, List.length_append, List.length_take, List.length_drop, List.length_map, List.length_replicate] <;> omega)) (by omega) hE516.size ?_
        intro v522 w523 O524 E525 hat526
        obtain ⟨a527, cap528, rfl⟩ := O524.slice
        have hat529 := hatN hat526
        have hE530 := hE516.andMem E525 (memOwn O519 (Nat.le_refl _))
        have := E525.size
        have nm532 := ninN nm136 Q517.lt (nTurn hat529 (nKeep same))
        have Q531 := Q517.step (nTurn hat529 (nKeep same)) E525 (fun h => nm136 (List.mem_append_left _ (h))) (fun _ h => List.mem_append_left _ (h))
        have B533 := B518.eff E525 (O519.apart (List.mem_append_left _ (List.mem_singleton.2 rfl)))
        have nm535 := ninN nm515 B514.lt (nTurn hat529 (nKeep same))
        have B534 := B514.eff E525 (fun h => nm515 (List.mem_append_left _ (h)))
        have hM536 : Mok (ob (.slice a527 ((out ++ [(92 : UInt8)]).length) cap528) ++ ([b112] ++ [])) w523 := hM521.step E525 (nTurn (fun b hb => .inr ((fun b hb => (O524.lt b hb).2) b hb)) (nKeep same))
        refine L.runU [3] [] [(4, .slice a527 ((out ++ [(92 : UInt8)]).length) cap528)] (by kernel_rfl) (by kernel_rfl) ?_
        refine L.done ?_
        show S _ _ _ c88_n42 _ _ _ _
        refine S.reg (ops := o88_n42) (js := [0, 1, 2, 3, 4]) (by kernel_rfl) (by kernel_rfl) ?_
        refine L.runU [0, 1] [2, 3, 4] [(58, .slice a527 ((out ++ [(92 : UInt8)]).length) cap528), (59, .int .u8 (x144.toNat : Int))] (by kernel_rfl) (by kernel_rfl) ?_
        refine L.newRow (fun b => .slice (some ⟨b, 0, none⟩) 1 1) [.int .u8 (x144.toNat : Int)] 5 (by kernel_rfl : lookAt _ _ _ _ = some ((Op.buildSlice 128 1 #[(0, (Operand.tmp 59))]), some 60)) (by intro c e; cases e) (fun w => by kernel_rfl) ?_
        intro b537 w538 hs539 hz540 E541 B542
        have nm543 := not_mem_of_ge (b := b537) hM536 (by omega)
        have hE544 := hE530.and0 E541
        have := E541.size
        have Q545 := Q531.step same E541 (by simp) no0
        have B546 := B533.eff0 E541
        have B547 := B534.eff0 E541
        have O548 := O524.step same E541 no0
        have hM549 := hM536.eff E541
        refine L.append (K := Kd.byte) (e := 5) (base := w.heap.size) (bytes := 1) (M := [b112] ++ []) (v := .slice a527 ((out ++ [(92 : UInt8)]).length) cap528) (xs := out ++ [(92 : UInt8)]) (ys := [x144]) (a := some ⟨b537, 0, none⟩) (cap := 1) (by kernel_rfl : lookAt _ _ _ _ = some ((Op.call { callee := (Callee.builtin Builtin.append), args := #[(Operand.tmp 58), (Operand.tmp 60)], argTypes := #[128, 128] }), some 61)) (by kernel_rfl) (by kernel_rfl) (by kernel_rfl) (by kernel_rfl) O548 (Sl.one (K := Kd.byte) (x := x144) B542 nm543 rfl) (hM549.sub (sDrop sSame)) (by (simp only [List.length_cons, List.length_nil, List.length_append, List.length_take, List.length_drop, List.length_map, List.length_replicate] <;> omega)) (by omega) hE544.size ?_
        intro v550 w551 O552 E553 hat554
        obtain ⟨a555, cap556, rfl⟩ := O552.slice
        have hat557 := hatN hat554
        have hE558 := hE544.andMem E553 (memOwn O548 (Nat.le_refl _))
        have := E553.size
        have nm560 := ninN nm532 Q545.lt (nTurn hat557 (nKeep same))
        have Q559 := Q545.step (nTurn hat557 (nKeep same)) E553 (fun h => nm532 (List.mem_append_left _ (h))) (fun _ h => List.mem_append_left _ (h))
        have B561 := B546.eff E553 (O548.apart (List.mem_append_left _ (List.mem_singleton.2 rfl)))
        have nm563 := ninN nm535 B547.lt (nTurn hat557 (nKeep same))
        have B562 := B547.eff E553 (fun h => nm535 (List.mem_append_left _ (h)))
        have nm565 := ninN nm543 B542.lt (nTurn hat557 (nKeep same))
        have B564 := B542.eff E553 (fun h => nm543 (List.mem_append_left _ (h)))
        have hM566 : Mok (ob (.slice a555 (((out ++ [(92 : UInt8)]) ++ [x144]).length) cap556) ++ ([b112] ++ [])) w551 := hM549.step E553 (nTurn (fun b hb => .inr ((fun b hb => (O552.lt b hb).2) b hb)) (nKeep same))
        refine L.runU [4] [] [(4, .slice a555 (((out ++ [(92 : UInt8)]) ++ [x144]).length) cap556)] (by kernel_rfl) (by kernel_rfl) ?_
        refine L.done ?_
        show S _ _ _ c88_n43 _ _ _ _
        refine S.reg (ops := o88_n43) (js := [0, 1]) (by kernel_rfl) (by kernel_rfl) ?_
        refine L.runU [0] [1] [(62, .int .i64 (IntKind.i64.wrap (((k : Nat) : Int) + 1)))] (by kernel_rfl) (by kernel_rfl) ?_
        refine X.re64 (G := fun σ => L _ _ _ _ _ _ σ _ _) (d := 62) (((k : Nat) : Int) + 1) (((k + 1 : Nat) : Int)) (by kernel_rfl) (by omega) ?_
        refine L.runU [1] [] [(11, .int .i64 (((k + 1 : Nat) : Int)))] (by kernel_rfl) (by kernel_rfl) ?_
        refine L.done ?_
        show ∃ m', m' < _ ∧ _
        refine ⟨l.length - (k + 1), ?_, ⟨k + 1, a555, cap556, (out ++ [(92 : UInt8)]) ++ [x144], rfl, (by omega), (by have hx := hx145; first | exact valT_snoc hout hx (by grind [escB, signB, hexD, getD_of]) | (rw [List.append_assoc]; exact valT_snoc hout hx (by grind [escB, signB, hexD, getD_of]))), (by simp only [List.length_append, List.length_cons, List.length_nil]; omega), Q559, nm560, B561, O552, hM566, hE558, (by omega), rfl, _, Holds.eq (l := [(0, sv l), (2, sv []), (3, .map (some b101)), (4, .slice a555 (((out ++ [(92 : UInt8)]) ++ [x144]).length) cap556), (9, .slice (some ⟨b112, 0, none⟩) l.length cap113), (10, .int .i64 (((l.length : Nat) : Int))), (11, .int .i64 (((k + 1 : Nat) : Int)))]) ⟨by kernel_rfl, by kernel_rfl, by kernel_rfl, by kernel_rfl, by kernel_rfl, by kernel_rfl, by kernel_rfl, trivial⟩⟩⟩
        omega
       ·refine S.skip (by kernel_rfl) ?_
        show S _ _ _ c88_n42 _ _ _ _
        refine S.reg (ops := o88_n42) (js := [0, 1, 2, 3, 4]) (by kernel_rfl) (by kernel_rfl) ?_
        refine L.runU [0, 1] [2, 3, 4] [(58, .slice a129 out.length cap130), (59, .int .u8 (x144.toNat : Int))] (by kernel_rfl) (by kernel_rfl) ?_
        refine L.newRow (fun b => .slice (some ⟨b, 0, none⟩) 1 1) [.int .u8 (x144.toNat : Int)] 5 (by kernel_rfl : lookAt _ _ _ _ = some ((Op.buildSlice 128 1 #[(0, (Operand.tmp 59))]), some 60)) (by intro c e; cases e) (fun w => by kernel_rfl) ?_
        intro b567 w568 hs569 hz570 E571 B572
        have nm573 := not_mem_of_ge (b := b567) hM139 (by omega)
        have hE574 := hE140.and0 E571
        have := E571.size
        have Q575 := F135.step same E571 (by simp) no0
        have B576 := F137.eff0 E571
        have O577 := O138.step same E571 no0
        have A578 := A143.step same E571 no0
        have hM579 := hM139.eff E571
        refine L.append (K := Kd.byte) (e := 5) (base := w.heap.size) (bytes := 1) (M := [b112] ++ []) (v := .slice a129 out.length cap130) (xs := out) (ys := [x144]) (a := some ⟨b567, 0, none⟩) (cap := 1) (by kernel_rfl : lookAt _ _ _ _ = some ((Op.call { callee := (Callee.builtin Builtin.append), args := #[(Operand.tmp 58), (Operand.tmp 60)], argTypes := #[128, 128] }), some 61)) (by kernel_rfl) (by kernel_rfl) (by kernel_rfl) (by kernel_rfl) O577 (Sl.one (K := Kd.byte) (x := x144) B572 nm573 rfl) (hM579.sub (sDrop sSame)) (by (simp only [List.length_cons, List.length_nil, List.length_append, List.length_take, List.length_drop, List.length_map, List.length_replicate] <;> omega)) (by omega) hE574.size ?_
        intro v580 w581 O582 E583 hat584
        obtain ⟨a585, cap586, rfl⟩ := O582.slice
        have hat587 := hatN hat584
        have hE588 := hE574.andMem E583 (memOwn O577 (Nat.le_refl _))
        have := E583.size
        have nm590 := ninN nm136 Q575.lt (nTurn hat587 (nKeep same))
        have Q589 := Q575.step (nTurn hat587 (nKeep same)) E583 (fun h => nm136 (List.mem_append_left _ (h))) (fun _ h => List.mem_append_left _ (h))
        have B591 := B576.eff E583 (O577.apart (List.mem_append_left _ (List.mem_singleton.2 rfl)))
        have nm593 := ninN nm573 B572.lt (nTurn hat587 (nKeep same))
        have B592 := B572.eff E583 (fun h => nm573 (List.mem_append_left _ (h)))
        have hM594 : Mok (ob (.slice a585 ((out ++ [x144]).length) cap586) ++ ([b112] ++ [])) w581 := hM579.step E583 (nTurn (fun b hb => .inr ((fun b hb => (O582.lt b hb).2) b hb)) (nKeep same))
        refine L.runU [4] [] [(4, .slice a585 ((out ++ [x144]).length) cap586)] (by kernel_rfl) (by kernel_rfl) ?_
        refine L.done ?_
        show S _ _ _ c88_n43 _ _ _ _
        refine S.reg (ops := o88_n43) (js := [0, 1]) (by kernel_rfl) (by kernel_rfl) ?_
        refine L.runU [0] [1] [(62, .int .i64 (IntKind.i64.wrap (((k : Nat) : Int) + 1)))] (by kernel_rfl) (by kernel_rfl) ?_
        refine X.re64 (G := fun σ => L _ _ _ _ _ _ σ _ _) (d := 62) (((k : Nat) : Int) + 1) (((k + 1 : Nat) : Int)) (by kernel_rfl) (by omega) ?_
        refine L.runU [1] [] [(11, .int .i64 (((k + 1 : Nat) : Int)))] (by kernel_rfl) (by kernel_rfl) ?_
        refine L.done ?_
        show ∃ m', m' < _ ∧ _
        refine ⟨l.length - (k + 1), ?_, ⟨k + 1, a585, cap586, out ++ [x144], rfl, (by omega), (by have hx := hx145; first | exact valT_snoc hout hx (by grind [escB, signB, hexD, getD_of]) | (rw [List.append_assoc]; exact valT_snoc hout hx (by grind [escB, signB, hexD, getD_of]))), (by simp only [List.length_append, List.length_cons, List.length_nil]; omega), Q589, nm590, B591, O582, hM594, hE588, (by omega), rfl, _, Holds.eq (l := [(0, sv l), (2, sv []), (3, .map (some b101)), (4, .slice a585 ((out ++ [x144]).length) cap586), (9, .slice (some ⟨b112, 0, none⟩) l.length cap113), (10, .int .i64 (((l.length : Nat) : Int))), (11, .int .i64 (((k + 1 : Nat) : Int)))]) ⟨by kernel_rfl, by kernel_rfl, by kernel_rfl, by kernel_rfl, by kernel_rfl, by kernel_rfl, by kernel_rfl, trivial⟩⟩⟩
        omega
      ·refine L.runU [6, 7, 8, 9] [] [(52, undef), (53, undef), (54, .bool false), (32, .bool false)] (by kernel_rfl) (by kernel_rfl) ?_
       refine L.done ?_
       show S _ _ _ c88_n39 _ _ _ _
       refine S.condF (o := (Operand.tmp 32)) (x := c88_n40) (y := c88_n41) (by kernel_rfl) (by kernel_rfl) ?_
       refine S.skip (by kernel_rfl) ?_
       show S _ _ _ c88_n42 _ _ _ _
       refine S.reg (ops := o88_n42) (js := [0, 1, 2, 3, 4]) (by kernel_rfl) (by kernel_rfl) ?_
       refine L.runU [0, 1] [2, 3, 4] [(58, .slice a129 out.length cap130), (59, .int .u8 (x144.toNat : Int))] (by kernel_rfl) (by kernel_rfl) ?_
       refine L.newRow (fun b => .slice (some ⟨b, 0, none⟩) 1 1) [.int .u8 (x144.toNat : Int)] 5 (by kernel_rfl : lookAt _ _ _ _ = some ((Op.buildSlice 128 1 #[(0, (Operand.tmp 59))]), some 60)) (by intro c e; cases e) (fun w => by kernel_rfl) ?_
       intro b595 w596 hs597 hz598 E599 B600
       have nm601 := not_mem_of_ge (b := b595) hM139 (by omega)
       have hE602 := hE140.and0 E599
       have := E599.size
       have Q603 := F135.step same E599 (by simp) no0
       have B604 := F137.eff0 E599
       have O605 := O138.step same E599 no0
       have A606 := A143.step same E599 no0
       have hM607 := hM139.eff E599
       refine L.append (K := Kd.byte) (e := 5) (base := w.heap.size) (bytes := 1) (M := [b112] ++ []) (v := .slice a129 out.length cap130) (xs := out) (ys := [x144]) (a := some ⟨b595, 0, none⟩) (cap := 1) (by kernel_rfl : lookAt _ _ _ _ = some ((Op.call { callee := (Callee.builtin Builtin.append), args := #[(Operand.tmp 58), (Operand.tmp 60)], argTypes := #[128, 128] }), some 61)) (by kernel_rfl) (by kernel_rfl) (by kernel_rfl) (by kernel_rfl) O605 (Sl.one (K := Kd.byte) (x := x144) B600 nm601 rfl) (hM607.sub (sDrop sSame)) (by (simp only [List.length_cons, List.length_nil, List.length_append, List.length_take, List.length_drop, List.length_map, List.length_replicate] <;> omega)) (by omega) hE602.size ?_
       intro v608 w609 O610 E611 hat612
       obtain ⟨a613, cap614, rfl⟩ := O610.slice
       have hat615 := hatN hat612
       have hE616 := hE602.andMem E611 (memOwn O605 (Nat.le_refl _))
       have := E611.size
       have nm618 := ninN nm136 Q603.lt (nTurn hat615 (nKeep same))
       have Q617 := Q603.step (nTurn hat615 (nKeep same)) E611 (fun h => nm136 (List.mem_append_left _ (h))) (fun _ h => List.mem_append_left _ (h))
       have B619 := B604.eff E611 (O605.apart (List.mem_append_left _ (List.mem_singleton.2 rfl)))
       have nm621 := ninN nm601 B600.lt (nTurn hat615 (nKeep same))
       have B620 := B600.eff E611 (fun h => nm601 (List.mem_append_left _ (h)))
       have hM622 : Mok (ob (.slice a613 ((out ++ [x144]).length) cap614) ++ ([b112] ++ [])) w609 := hM607.step E611 (nTurn (fun b hb => .inr ((fun b hb => (O610.lt b hb).2) b hb)) (nKeep same))
       refine L.runU [4] [] [(4, .slice a613 ((out ++ [x144]).length) cap614)] (by kernel_rfl) (by kernel_rfl) ?_
       refine L.done ?_
       show S _ _ _ c88_n43 _ _ _ _
       refine S.reg (ops := o88_n43) (js := [0, 1]) (by kernel_rfl) (by kernel_rfl) ?_
       refine L.runU [0] [1] [(62, .int .i64 (IntKind.i64.wrap (((k : Nat) : Int) + 1)))] (by kernel_rfl) (by kernel_rfl) ?_
       refine X.re64 (G := fun σ => L _ _ _ _ _ _ σ _ _) (d := 62) (((k : Nat) : Int) + 1) (((k + 1 : Nat) : Int)) (by kernel_rfl) (by omega) ?_
       refine L.runU [1] [] [(11, .int .i64 (((k + 1 : Nat) : Int)))] (by kernel_rfl) (by kernel_rfl) ?_
       refine L.done ?_
       show ∃ m', m' < _ ∧ _
       refine ⟨l.length - (k + 1), ?_, ⟨k + 1, a613, cap614, out ++ [x144], rfl, (by omega), (by have hx := hx145; first | exact valT_snoc hout hx (by grind [escB, signB, hexD, getD_of]) | (rw [List.append_assoc]; exact valT_snoc hout hx (by grind [escB, signB, hexD, getD_of]))), (by simp only [List.length_append, List.length_cons, List.length_nil]; omega), Q617, nm618, B619, O610, hM622, hE616, (by omega), rfl, _, Holds.eq (l := [(0, sv l), (2, sv []), (3, .map (some b101)), (4, .slice a613 ((out ++ [x144]).length) cap614), (9, .slice (some ⟨b112, 0, none⟩) l.length cap113), (10, .int .i64 (((l.length : Nat) : Int))), (11, .int .i64 (((k + 1 : Nat) : Int)))]) ⟨by kernel_rfl, by kernel_rfl, by kernel_rfl, by kernel_rfl, by kernel_rfl, by kernel_rfl, by kernel_rfl, trivial⟩⟩⟩
       omega
    ·obtain rfl := signs_true hg240
     obtain ⟨cs624, R625, look623⟩ := look_some (P := Tryz.prog) (t := 180) (kt := 5) (et := 4) (zv := .bool false) hg240 F135 (by kernel_rfl) (by kernel_rfl) (fun _ => by kernel_rfl)
     obtain rfl := R625
     have := F135.lt
     refine L.val (.bool true) (by kernel_rfl : lookAt _ _ _ _ = some ((Op.lookup 180 (Operand.tmp 33) (Operand.tmp 34) Bool.false), some 35)) (by intro c e; cases e) (look623 _ _ _ _ false _ (by kernel_rfl) (by kernel_rfl) (by rfl)) ?_
     refine L.runU [3] [] [(32, .bool true)] (by kernel_rfl) (by kernel_rfl) ?_
     refine L.done ?_
     show S _ _ _ c88_n32 _ _ _ _
     refine S.cond (true) (o := (Operand.tmp 32)) (x := c88_n33) (y := c88_n34) (by kernel_rfl) (by kernel_rfl) (fun h626 => ?_) (fun h626 => ?_)
     ·refine S.skip (by kernel_rfl) ?_
      show S _ _ _ c88_n39 _ _ _ _
      refine S.cond (true) (o := (Operand.tmp 32)) (x := c88_n40) (y := c88_n41) (by kernel_rfl) (by kernel_rfl) (fun h627 => ?_) (fun h627 => ?_)
      ·refine S.reg (ops := o88_n40) (js := [0, 1, 2, 3]) (by kernel_rfl) (by kernel_rfl) ?_
       refine L.runU [0] [1, 2, 3] [(55, .slice a129 out.length cap130)] (by kernel_rfl) (by kernel_rfl) ?_
       refine L.newRow (fun b => .slice (some ⟨b, 0, none⟩) 1 1) [.int .u8 92] 5 (by kernel_rfl : lookAt _ _ _ _ = some ((Op.buildSlice 128 1 #[(0, (Operand.const (Value.int IntKind.u8 92)))]), some 56)) (by intro c e; cases e) (fun w => by kernel_rfl) ?_
       intro b628 w629 hs630 hz631 E632 B633
       have nm634 := not_mem_of_ge (b := b628) hM139 (by omega)
       have hE635 := hE140.and0 E632
       have := E632.size
       have Q636 := F135.step same E632 (by simp) no0
       have B637 := F137.eff0 E632
       have O638 := O138.step same E632 no0
       have A639 := A143.step same E632 no0
       have hM640 := hM139.eff E632
       refine L.append (K := Kd.byte) (e := 5) (base := w.heap.size) (bytes := 1) (M := [b112] ++ []) (v := .slice a129 out.length cap130) (xs := out) (ys := [(92 : UInt8)]) (a := some ⟨b628, 0, none⟩) (cap := 1) (by kernel_rfl : lookAt _ _ _ _ = some ((Op.call { callee := (Callee.builtin Builtin.append), args := #[(Operand.tmp 55), (Operand.tmp 56)], argTypes := #[128, 128] }), some 57)) (by kernel_rfl) (by kernel_rfl) (by kernel_rfl) (by kernel_rfl) O638 (Sl.one (K := Kd.byte) (x := (92 : UInt8)) B633 nm634 rfl) (hM640.sub (sDrop sSame)) (by (simp only [List.length_cons, List.length_nil, List.length_append, List.length_take, List.length_drop, List.length_map, List.length_replicate] <;> omega)) (by omega) hE635.size ?_
       intro v641 w642 O643 E644 hat645
       obtain ⟨a646, cap647, rfl⟩ := O643.slice
       have hat648 := hatN hat645
       have hE649 := hE635.andMem E644 (memOwn O638 (Nat.le_refl _))
       have := E644.size
       have nm651 := ninN nm136 Q636.lt (nTurn hat648 (nKeep same))
       have Q650 := Q636.step (nTurn hat648 (nKeep same)) E644 (fun h => nm136 (List.mem_append_left _ (h))) (fun _ h => List.mem_append_left _ (h))
       have B652 := B637.eff E644 (O638.apart (List.mem_append_left _ (List.mem_singleton.2 rfl)))
       have nm654 := ninN nm634 B633.lt (nTurn hat648 (nKeep same))
       have B653 := B633.eff E644 (fun h => nm634 (List.mem_append_left _ (h)))
       have hM655 : Mok (ob (.slice a646 ((out ++ [(92 : UInt8)]).length) cap647) ++ ([b112] ++ [])) w642 := hM640.step E644 (nTurn (fun b hb => .inr ((fun b hb => (O643.lt b hb).2) b hb)) (nKeep same))
       refine L.runU [3] [] [(4, .slice a646 ((out ++ [(92 : UInt8)]).length) cap647)] (by kernel_rfl) (by kernel_rfl) ?_
       refine L.done ?_
       show S _ _ _ c88_n42 _ _ _ _
       refine S.reg (ops := o88_n42) (js := [0, 1, 2, 3, 4]) (by kernel_rfl) (by kernel_rfl) ?_
       refine L.runU [0, 1] [2, 3, 4] [(58, .slice a646 ((out ++ [(92 : UInt8)]).length) cap647), (59, .int .u8 (x144.toNat : Int))] (by kernel_rfl) (by kernel_rfl) ?_
       refine L.newRow (fun b => .slice (some ⟨b, 0, none⟩) 1 1) [.int .u8 (x144.toNat : Int)] 5 (by kernel_rfl : lookAt _ _ _ _ = some ((Op.buildSlice 128 1 #[(0, (Operand.tmp 59))]), some 60)) (by intro c e; cases e) (fun w => by kernel_rfl) ?_
       intro b656 w657 hs658 hz659 E660 B661
       have nm662 := not_mem_of_ge (b := b656) hM655 (by omega)
       have hE663 := hE649.and0 E660
       have := E660.size
       have Q664 := Q650.step same E660 (by simp) no0
       have B665 := B652.eff0 E660
       have B666 := B653.eff0 E660
       have O667 := O643.step same E660 no0
       have hM668 := hM655.eff E660
       refine L.append (K := Kd.byte) (e := 5) (base := w.heap.size) (bytes := 1) (M := [b112] ++ []) (v := .slice a646 ((out ++ [(92 : UInt8)]).length) cap647) (xs := out ++ [(92 : UInt8)]) (ys := [x144]) (a := some ⟨b656, 0, none⟩) (cap := 1) (by kernel_rfl : lookAt _ _ _ _ = some ((Op.call { callee := (Callee.builtin Builtin.append), args := #[(Operand.tmp 58), (Operand.tmp 60)], argTypes := #[128, 128] }), some 61)) (by kernel_rfl) (by kernel_rfl) (by kernel_rfl) (by kernel_rfl) O667 (Sl.one (K := Kd.byte) (x := x144) B661 nm662 rfl) (hM668.sub (sDrop sSame)) (by (simp only [List.length_cons, List.length_nil, List.length_append, List.length_take, List.length_drop, List.length_map, List.length_replicate] <;> omega)) (by omega) hE663.size ?_
       intro v669 w670 O671 E672 hat673
       obtain ⟨a674, cap675, rfl⟩ := O671.slice
       have hat676 := hatN hat673
       have hE677 := hE663.andMem E672 (memOwn O667 (Nat.le_refl _))
       have := E672.size
       have nm679 := ninN nm651 Q664.lt (nTurn hat676 (nKeep same))
       have Q678 := Q664.step (nTurn hat676 (nKeep same)) E672 (fun h => nm651 (List.mem_append_left _ (h))) (fun _ h => List.mem_append_left _ (h))
       have B680 := B665.eff E672 (O667.apart (List.mem_append_left _ (List.mem_singleton.2 rfl)))
       have nm682 := ninN nm654 B666.lt (nTurn hat676 (nKeep same))
       have B681 := B666.eff E672 (fun h => nm654 (List.mem_append_left _ (h)))
       have nm684 := ninN nm662 B661.lt (nTurn hat676 (nKeep same))
       have B683 := B661.eff E672 (fun h => nm662 (List.mem_append_left _ (h)))
       have hM685 : Mok (ob (.slice a674 (((out ++ [(92 : UInt8)]) ++ [x144]).length) cap675) ++ ([b112] ++ [])) w670 := hM668.step E672 (nTurn (fun b hb => .inr ((fun b hb => (O671.lt b hb).2) b hb)) (nKeep same))
       refine L.runU [4] [] [(4, .slice a674 (((out ++ [(92 : UInt8)]) ++ [x144]).length) cap675)] (by kernel_rfl) (by kernel_rfl) ?_
       refine L.done ?_
       show S _ _ _ c88_n43 _ _ _ _
       refine S.reg (ops := o88_n43) (js := [0, 1]) (by kernel_rfl) (by kernel_rfl) ?_
       refine L.runU [0] [1] [(62, .int .i64 (IntKind.i64.wrap (((k : Nat) : Int) + 1)))] (by kernel_rfl) (by kernel_rfl) ?_
       refine X.re64 (G := fun σ => L _ _ _ _ _ _ σ _ _) (d := 62) (((k : Nat) : Int) + 1) (((k + 1 : Nat) : Int)) (by kernel_rfl) (by omega) ?_
       refine L.runU [1] [] [(11, .int .i64 (((k + 1 : Nat) : Int)))] (by kernel_rfl) (by kernel_rfl) ?_
       refine L.done ?_
       show ∃ m', m' < _ ∧ _
       refine ⟨l.length - (k + 1), ?_, ⟨k + 1, a674, cap675, (out ++ [(92 : UInt8)]) ++ [x144], rfl, (by omega), (by have hx := hx145; first | exact valT_snoc hout hx (by grind [escB, signB, hexD, getD_of]) | (rw [List.append_assoc]; exact valT_snoc hout hx (by grind [escB, signB, hexD, getD_of]))), (by simp only [List.length_append, List.length_cons, List.length_nil]; omega), Q678, nm679, B680, O671, hM685, hE677, (by omega), rfl, _, Holds.eq (l := [(0, sv l), (2, sv []), (3, .map (some b101)), (4, .slice a674 (((out ++ [(92 : UInt8)]) ++ [x144]).length) cap675), (9, .slice (some ⟨b112, 0, none⟩) l.length cap113), (10, .int .i64 (((l.length : Nat) : Int))), (11, .int .i64 (((k + 1 : Nat) : Int)))]) ⟨by kernel_rfl, by kernel_rfl, by kernel_rfl, by kernel_rfl, by kernel_rfl, by kernel_rfl, by kernel_rfl, trivial⟩⟩⟩
       omega
      ·refine S.skip (by kernel_rfl) ?_
       show S _ _ _ c88_n42 _ _ _ _
       refine S.reg (ops := o88_n42) (js := [0, 1, 2, 3, 4]) (by kernel_rfl) (by kernel_rfl) ?_
       refine L.runU [0, 1] [2, 3, 4] [(58, .slice a129 out.length cap130), (59, .int .u8 (x144.toNat : Int))] (by kernel_rfl) (by kernel_rfl) ?_
       refine L.newRow (fun b => .slice (some ⟨b, 0, none⟩) 1 1) [.int .u8 (x144.toNat : Int)] 5 (by kernel_rfl : lookAt _ _ _ _ = some ((Op.buildSlice 128 1 #[(0, (Operand.tmp 59))]), some 60)) (by intro c e; cases e) (fun w => by kernel_rfl) ?_
       intro b686 w687 hs688 hz689 E690 B691
       have nm692 := not_mem_of_ge (b := b686) hM139 (by omega)
       have hE693 := hE140.and0 E690
       have := E690.size
       have Q694 := F135.step same E690 (by simp) no0
       have B695 := F137.eff0 E690
       have O696 := O138.step same E690 no0
       have A697 := A143.step same E690 no0
       have hM698 := hM139.eff E690
       refine L.append (K := Kd.byte) (e := 5) (base := w.heap.size) (bytes := 1) (M := [b112] ++ []) (v := .slice a129 out.length cap130) (xs := out) (ys := [x144]) (a := some ⟨b686, 0, none⟩) (cap := 1) (by kernel_rfl : lookAt _ _ _ _ = some ((Op.call { callee := (Callee.builtin Builtin.append), args := #[(Operand.tmp 58), (Operand.tmp 60)], argTypes := #[128, 128] }), some 61)) (by kernel_rfl) (by kernel_rfl) (by kernel_rfl) (by kernel_rfl) O696 (Sl.one (K := Kd.byte) (x := x144) B691 nm692 rfl) (hM698.sub (sDrop sSame)) (by (simp only [List.length_cons, List.length_nil, List.length_append, List.length_take, List.length_drop, List.length_map, List.length_replicate] <;> omega)) (by omega) hE693.size ?_
       intro v699 w700 O701 E702 hat703
       obtain ⟨a704, cap705, rfl⟩ := O701.slice
       have hat706 := hatN hat703
       have hE707 := hE693.andMem E702 (memOwn O696 (Nat.le_refl _))
       have := E702.size
       have nm709 := ninN nm136 Q694.lt (nTurn hat706 (nKeep same))
       have Q708 := Q694.step (nTurn hat706 (nKeep same)) E702 (fun h => nm136 (List.mem_append_left _ (h))) (fun _ h => List.mem_append_left _ (h))
       have B710 := B695.eff E702 (O696.apart (List.mem_append_left _ (List.mem_singleton.2 rfl)))
       have nm712 := ninN nm692 B691.lt (nTurn hat706 (nKeep same))
       have B711 := B691.eff E702 (fun h => nm692 (List.mem_append_left _ (h)))
       have hM713 : Mok (ob (.slice a704 ((out ++ [x144]).length) cap705) ++ ([b112] ++ [])) w700 := hM698.step E702 (nTurn (fun b hb => .inr ((fun b hb => (O701.lt b hb).2) b hb)) (nKeep same))
       refine L.runU [4] [] [(4, .slice a704 ((out ++ [x144]).length) cap705)] (by kernel_rfl) (by kernel_rfl) ?_
       refine L.done ?_
       show S _ _ _ c88_n43 _ _ _ _
       refine S.reg (ops := o88_n43) (js := [0, 1]) (by kernel_rfl) (by kernel_rfl) ?_
       refine L.runU [0] [1] [(62, .int .i64 (IntKind.i64.wrap (((k : Nat) : Int) + 1)))] (by kernel_rfl) (by kernel_rfl) ?_
       refine X.re64 (G := fun σ => L _ _ _ _ _ _ σ _ _) (d := 62) (((k : Nat) : Int) + 1) (((k + 1 : Nat) : Int)) (by kernel_rfl) (by omega) ?_
       refine L.runU [1] [] [(11, .int .i64 (((k + 1 : Nat) : Int)))] (by kernel_rfl) (by kernel_rfl) ?_
       refine L.done ?_
       show ∃ m', m' < _ ∧ _
       refine ⟨l.length - (k + 1), ?_, ⟨k + 1, a704, cap705, out ++ [x144], rfl, (by omega), (by have hx := hx145; first | exact valT_snoc hout hx (by grind [escB, signB, hexD, getD_of]) | (rw [List.append_assoc]; exact valT_snoc hout hx (by grind [escB, signB, hexD, getD_of]))), (by simp only [List.length_append, List.length_cons, List.length_nil]; omega), Q708, nm709, B710, O701, hM713, hE707, (by omega), rfl, _, Holds.eq (l := [(0, sv l), (2, sv []), (3, .map (some b101)), (4, .slice a704 ((out ++ [x144]).length) cap705), (9, .slice (some ⟨b112, 0, none⟩) l.length cap113), (10, .int .i64 (((l.length : Nat) : Int))), (11, .int .i64 (((k + 1 : Nat) : Int)))]) ⟨by kernel_rfl, by kernel_rfl, by kernel_rfl, by kernel_rfl, by kernel_rfl, by kernel_rfl, by kernel_rfl, trivial⟩⟩⟩
       omega
     ·refine S.seq (x := c88_n35) (y := c88_n36) (by kernel_rfl) ?_
      refine S.reg (ops := o88_n35) (js := [0, 1, 2, 3, 4, 5, 6, 7, 8, 9, 10]) (by kernel_rfl) (by kernel_rfl) ?_
      refine L.runU [0, 1, 2] [3, 4, 5, 6, 7, 8, 9, 10] [(36, .int .i64 (((k : Nat) : Int))), (37, .bool (decide (((k : Nat) : Int) = 0))), (38, .bool (decide (((k : Nat) : Int) = 0)))] (by kernel_rfl) (by kernel_rfl) ?_
      refine X.splitP (G := fun σ => L _ _ _ _ _ _ σ _ _) (((k : Nat) : Int) = 0) 38 (by kernel_rfl) (fun h714 => ?_) (fun h714 => ?_)
      ·refine L.runU [3, 4, 5] [6, 7, 8, 9, 10] [(39, .int .u8 (x144.toNat : Int)), (40, .bool (decide ((x144.toNat : Int) = 32))), (41, .bool (decide ((x144.toNat : Int) = 32)))] (by kernel_rfl) (by kernel_rfl) ?_
       refine X.splitP (G := fun σ => L _ _ _ _ _ _ σ _ _) ((x144.toNat : Int) = 32) 41 (by kernel_rfl) (fun h715 => ?_) (fun h715 => ?_)
       ·refine L.runU [6, 7, 8, 9, 10] [] [(42, undef), (43, undef), (44, .bool true), (45, .bool true), (32, .bool true)] (by kernel_rfl) (by kernel_rfl) ?_
        refine L.done ?_
        show S _ _ _ c88_n36 _ _ _ _
        refine S.condT (o := (Operand.tmp 32)) (x := c88_n37) (y := c88_n38) (by kernel_rfl) (by kernel_rfl) ?_
        refine S.skip (by kernel_rfl) ?_
        show S _ _ _ c88_n39 _ _ _ _
        refine S.condT (o := (Operand.tmp 32)) (x := c88_n40) (y := c88_n41) (by kernel_rfl) (by kernel_rfl) ?_
        refine S.reg (ops := o88_n40) (js := [0, 1, 2, 3]) (by kernel_rfl) (by kernel_rfl) ?_
        refine L.runU [0] [1, 2, 3] [(55, .slice a129 out.length cap130)] (by kernel_rfl) (by kernel_rfl) ?_
        refine L.newRow (fun b => .slice (some ⟨b, 0, none⟩) 1 1) [.int .u8 92] 5 (by kernel_rfl : lookAt _ _ _ _ = some ((Op.buildSlice 128 1 #[(0, (Operand.const (Value.int IntKind.u8 92)))]), some 56)) (by intro c e; cases e) (fun w => by kernel_rfl) ?_
        intro b716 w717 hs718 hz719 E720 B721
        have nm722 := not_mem_of_ge (b := b716) hM139 (by omega)
        have hE723 := hE140.and0 E720
        have := E720.size
        have Q724 := F135.step same E720 (by simp) no0
        have B725 := F137.eff0 E720
        have O726 := O138.step same E720 no0
        have A727 := A143.step same E720 no0
        have hM728 := hM139.eff E720
        refine L.append (K := Kd.byte) (e := 5) (base := w.heap.size) (bytes := 1) (M := [b112] ++ []) (v := .slice a129 out.length cap130) (xs := out) (ys := [(92 : UInt8)]) (a := some ⟨b716, 0, none⟩) (cap := 1) (by kernel_rfl : lookAt _ _ _ _ = some ((Op.call { callee := (Callee.builtin Builtin.append), args := #[(Operand.tmp 55), (Operand.tmp 56)], argTypes := #[128, 128] }), some 57)) (by kernel_rfl) (by kernel_rfl) (by kernel_rfl) (by kernel_rfl) O726 (Sl.one (K := Kd.byte) (x := (92 : UInt8)) B721 nm722 rfl) (hM728.sub (sDrop sSame)) (by (simp only [List.length_cons, List.length_nil, List.length_append, List.length_take, List.length_drop, List.length_map, List.length_replicate] <;> omega)) (by omega) hE723.size ?_
        intro v729 w730 O731 E732 hat733
        obtain ⟨a734, cap735, rfl⟩ := O731.slice
        have hat736 := hatN hat733
        have hE737 := hE723.andMem E732 (memOwn O726 (Nat.le_refl _))
        have := E732.size
        have nm739 := ninN nm136 Q724.lt (nTurn hat736 (nKeep same))
        have Q738 := Q724.step (nTurn hat736 (nKeep same)) E732 (fun h => nm136 (List.mem_append_left _ (h))) (fun _ h => List.mem_append_left _ (h))
        have B740 := B725.eff E732 (O726.apart (List.mem_append_left _ (List.mem_singleton.2 rfl)))
        have nm742 := ninN nm722 B721.lt (nTurn hat736 (nKeep same))
        have B741 := B721.eff E732 (fun h => nm722 (List.mem_append_left _ (h)))
        have hM743 : Mok (ob (.slice a734 ((out ++ [(92 : UInt8)]).length) cap735) ++ ([b112] ++ [])) w730 := hM728.step E732 (nTurn (fun b hb => .inr ((fun b hb => (O731.lt b hb).2) b hb)) (nKeep same))
        refine L.runU [3] [] [(4, .slice a734 ((out ++ [(92 : UInt8)]).length) cap735)] (by kernel_rfl) (by kernel_rfl) ?_
        refine L.done ?_
        show S _ _ _ c88_n42 _ _ _ _
        refine S.reg (ops := o88_n42) (js := [0, 1, 2, 3, 4]) (by kernel_rfl) (by kernel_rfl) ?_
        refine L.runU [0, 1] [2, 3, 4] [(58, .slice a734 ((out ++ [(92 : UInt8)]).length) cap735), (59, .int .u8 (x144.toNat : Int))] (by kernel_rfl) (by kernel_rfl) ?_
        refine L.newRow (fun b => .slice (some ⟨b, 0, none⟩) 1 1) [.int .u8 (x144.toNat : Int)] 5 (by kernel_rfl : lookAt _ _ _ _ = some ((Op.buildSlice 128 1 #[(0, (Operand.tmp 59))]), some 60)) (by intro c e; cases e) (fun w => by kernel_rfl) ?_
        intro b744 w745 hs746 hz747 E748 B749
        have nm750 := not_mem_of_ge (b := b744) hM743 (by omega)
        have hE751 := hE737.and0 E748
        have := E748.size
        have Q752 := Q738.step same E748 (by simp) no0
        have B753 := B740.eff0 E748
        have B754 := B741.eff0 E748
        have O755 := O731.step same E748 no0
        have hM756 := hM743.eff E748
        refine L.append (K := Kd.byte) (e := 5) (base := w.heap.size) (bytes := 1) (M := [b112] ++ []) (v := .slice a734 ((out ++ [(92 : UInt8)]).length) cap735) (xs := out ++ [(92 : UInt8)]) (ys := [x144]) (a := some ⟨b744, 0, none⟩) (cap := 1) (by kernel_rfl : lookAt _ _ _ _ = some ((Op.call { callee := (Callee.builtin Builtin.append), args := #[(Operand.tmp 58), (Operand.tmp 60)], argTypes := #[128, 128] }), some 61)) (by kernel_rfl) (by kernel_rfl) (by kernel_rfl) (by kernel_rfl) O755 (Sl.one (K := Kd.byte) (x := x144) B749 nm750 rfl) (hM756.sub (sDrop sSame)) (by (simp only [List.length_cons, List.length_nil, List.length_append, List.length_take, List.length_drop, List.length_map, List.length_replicate] <;> omega)) (by omega) hE751.size ?_
        intro v757 w758 O759 E760 hat761
        obtain ⟨a762, cap763, rfl⟩ := O759.slice
        have hat764 := hatN hat761
        have hE765 := hE751.andMem E760 (memOwn O755 (Nat.le_refl _))
        have := E760.size
        have nm767 := ninN nm739 Q752.lt (nTurn hat764 (nKeep same))
        have Q766 := Q752.step (nTurn hat764 (nKeep same)) E760 (fun h => nm739 (List.mem_append_left _ (h))) (fun _ h => List.mem_append_left _ (h))
        have B768 := B753.eff E760 (O755.apart (List.mem_append_left _ (List.mem_singleton.2 rfl)))
        have nm770 := ninN nm742 B754.lt (nTurn hat764 (nKeep same))
        have B769 := B754.eff E760 (fun h => nm742 (List.mem_append_left _ (h)))
        have nm772 := ninN nm750 B749.lt (nTurn hat764 (nKeep same))
        have B771 := B749.eff E760 (fun h => nm750 (List.mem_append_left _ (h)))
        have hM773 : Mok (ob (.slice a762 (((out ++ [(92 : UInt8)]) ++ [x144]).length) cap763) ++ ([b112] ++ [])) w758 := hM756.step E760 (nTurn (fun b hb => .inr ((fun b hb => (O759.lt b hb).2) b hb)) (nKeep same))
        refine L.runU [4] [] [(4, .slice a762 (((out ++ [(92 : UInt8)]) ++ [x144]).length) cap763)] (by kernel_rfl) (by kernel_rfl) ?_
        refine L.done ?_
        show S _ _ _ c88_n43 _ _ _ _
        refine S.reg (ops := o88_n43) (js := [0, 1]) (by kernel_rfl) (by kernel_rfl) ?_
        refine L.runU [0] [1] [(62, .int .i64 (IntKind.i64.wrap (((k : Nat) : Int) + 1)))] (by kernel_rfl) (by kernel_rfl) ?_
        refine X.re64 (G := fun σ => L _ _ _ _ _ _ σ _ _) (d := 62) (((k : Nat) : Int) + 1) (((k + 1 : Nat) : Int)) (by kernel_rfl) (by omega) ?_
        refine L.runU [1] [] [(11, .int .i64 (((k + 1 : Nat) : Int)))] (by kernel_rfl) (by kernel_rfl) ?_
        refine L.done ?_
        show ∃ m', m' < _ ∧ _
        refine ⟨l.length - (k + 1), ?_, ⟨k + 1, a762, cap763, (out ++ [(92 : UInt8)]) ++ [x144], rfl, (by omega), (by have hx := hx145; first | exact valT_snoc hout hx (by grind [escB, signB, hexD, getD_of]) | (rw [List.append_assoc]; exact valT_snoc hout hx (by grind [escB, signB, hexD, getD_of]))), (by simp only [List.length_append, List.length_cons, List.length_nil]; omega), Q766, nm767, B768, O759, hM773, hE765, (by omega), rfl, _, Holds.eq (l := [(0, sv l), (2, sv []), (3, .map (some b101)), (4, .slice a762 (((out ++ [(92 : UInt8)]) ++ [x144]).length) cap763), (9, .slice (some ⟨b112, 0, none⟩) l.length cap113), (10, .int .i64 (((l.length : Nat) : Int))), (11, .int .i64 (((k + 1 : Nat) : Int)))]) ⟨by kernel_rfl, by kernel_rfl, by kernel_rfl, by kernel_rfl, by kernel_rfl, by kernel_rfl, by kernel_rfl, trivial⟩⟩⟩
        omega
       ·refine L.runU [6, 7, 8, 9, 10] [] [(42, .int .u8 (x144.toNat : Int)), (43, .bool (decide ((x144.toNat : Int) = 35))), (44, .bool (decide ((x144.toNat : Int) = 35))), (45, .bool (decide ((x144.toNat : Int) = 35))), (32, .bool (decide ((x144.toNat : Int) = 35)))] (by kernel_rfl) (by kernel_rfl) ?_
        refine L.done ?_
        show S _ _ _ c88_n36 _ _ _ _
        refine S.condP ((x144.toNat : Int) = 35) (o := (Operand.tmp 32)) (x := c88_n37) (y := c88_n38) (by kernel_rfl) (by kernel_rfl) (fun h774 => ?_) (fun h774 => ?_)
        ·refine S.skip (by kernel_rfl) ?_
         show S _ _ _ c88_n39 _ _ _ _
         refine S.condP ((x144.toNat : Int) = 35) (o := (Operand.tmp 32)) (x := c88_n40) (y := c88_n41) (by kernel_rfl) (by kernel_rfl) (fun h775 => ?_) (fun h775 => ?_)
         ·refine S.reg (ops := o88_n40) (js := [0, 1, 2, 3]) (by kernel_rfl) (by kernel_rfl) ?_
          refine L.runU [0] [1, 2, 3] [(55, .slice a129 out.length cap130)] (by kernel_rfl) (by kernel_rfl) ?_
          refine L.newRow (fun b => .slice (some ⟨b, 0, none⟩) 1 1) [.int .u8 92] 5 (by kernel_rfl : lookAt _ _ _ _ = some ((Op.buildSlice 128 1 #[(0, (Operand.const (Value.int IntKind.u8 92)))]), some 56)) (by intro c e; cases e) (fun w => by kernel_rfl) ?_
          intro b776 w777 hs778 hz779 E780 B781
          have nm782 := not_mem_of_ge (b := b776) hM139 (by omega)
          have hE783 := hE140.and0 E780
          have := E780.size
          have Q784 := F135.step same E780 (by simp) no0
          have B785 := F137.eff0 E780
          have O786 := O138.step same E780 no0
          have A787 := A143.step same E780 no0
          have hM788 := hM139.eff E780
          refine L.append (K := Kd.byte) (e := 5) (base := w.heap.size) (bytes := 1) (M := [b112] ++ []) (v := .slice a129 out.length cap130) (xs := out) (ys := [(92 : UInt8)]) (a := some ⟨b776, 0, none⟩) (cap := 1) (by kernel_rfl : lookAt _ _ _ _ = some ((Op.call { callee := (Callee.builtin Builtin.append), args := #[(Operand.tmp 55), (Operand.tmp 56)], argTypes := #[128, 128] }), some 57)) (by kernel_rfl) (by kernel_rfl) (by kernel_rfl) (by kernel_rfl) O786 (Sl.one (K := Kd.byte) (x := (92 : UInt8)) B781 nm782 rfl) (hM788.sub (sDrop sSame)) (by (simp only [List.length_cons, List.length_nil, List.length_append, List.length_take, List.length_drop, List.length_map, List.length_replicate] <;> omega)) (by omega) hE783.size ?_
          intro v789 w790 O791 E792 hat793
          obtain ⟨a794, cap795, rfl⟩ := O791.slice
          have hat796 := hatN hat793
          have hE797 := hE783.andMem E792 (memOwn O786 (Nat.le_refl _))
          have := E792.size
          have nm799 := ninN nm136 Q784.lt (nTurn hat796 (nKeep same))
          have Q798 := Q784.step (nTurn hat796 (nKeep same)) E792 (fun h => nm136 (List.mem_append_left _ (h))) (fun _ h => List.mem_append_left _ (h))
          have B800 := B785.eff E792 (O786.apart (List.mem_append_left _ (List.mem_singleton.2 rfl)))
          have nm802 := ninN nm782 B781.lt (nTurn hat796 (nKeep same))
          have B801 := B781.eff E792 (fun h => nm782 (List.mem_append_left _ (h)))
          have hM803 : Mok (ob (.slice a794 ((out ++ [(92 : UInt8)]).length) cap795) ++ ([b112] ++ [])) w790 := hM788.step E792 (nTurn (fun b hb => .inr ((fun b hb => (O791.lt b hb).2) b hb)) (nKeep same))
          refine L.runU [3] [] [(4, .slice a794 ((out ++ [(92 : UInt8)]).length) cap795)] (by kernel_rfl) (by kernel_rfl) ?_
          refine L.done ?_
          show S _ _ _ c88_n42 _ _ _ _
          refine S.reg (ops := o88_n42) (js := [0, 1, 2, 3, 4]) (by kernel_rfl) (by kernel_rfl) ?_
          refine L.runU [0, 1] [2, 3, 4] [(58, .slice a794 ((out ++ [(92 : UInt8)]).length) cap795), (59, .int .u8 (x144.toNat : Int))] (by kernel_rfl) (by kernel_rfl) ?_
          refine L.newRow (fun b => .slice (some ⟨b, 0, none⟩) 1 1) [.int .u8 (x144.toNat : Int)] 5 (by kernel_rfl : lookAt _ _ _ _ = some ((Op.buildSlice 128 1 #[(0, (Operand.tmp 59))]), some 60)) (by intro c e; cases e) (fun w => by kernel_rfl) ?_
          intro b804 w805 hs806 hz807 E808 B809
          have nm810 := not_mem_of_ge (b := b804) hM803 (by omega)
          have hE811 := hE797.and0 E808
          have := E808.size
          have Q812 := Q798.step same E808 (by simp) no0
          have B813 := B800.eff0 E808
          have B814 := B801.eff0 E808
          have O815 := O791.step same E808 no0
          have hM816 := hM803.eff E808
          refine L.append (K := Kd.byte) (e := 5) (base := w.heap.size) (bytes := 1) (M := [b112] ++ []) (v := .slice a794 ((out ++ [(92 : UInt8)]).length) cap795) (xs := out ++ [(92 : UInt8)]) (ys := [x144]) (a := some ⟨b804, 0, none⟩) (cap := 1) (by kernel_rfl : lookAt _ _ _ _ = some ((Op.call { callee := (Callee.builtin Builtin.append), args := #[(Operand.tmp 58), (Operand.tmp 60)], argTypes := #[128, 128] }), some 61)) (by kernel_rfl) (by kernel_rfl) (by kernel_rfl) (by kernel_rfl) O815 (Sl.one (K := Kd.byte) (x := x144) B809 nm810 rfl) (hM816.sub (sDrop sSame)) (by (simp only [List.length_cons, List.length_nil, List.length_append, List.length_take, List.length_drop, List.length_map, List.length_replicate] <;> omega)) (by omega) hE811.size ?_
          intro v817 w818 O819 E820 hat821
          obtain ⟨a822, cap823, rfl⟩ := O819.slice
          have hat824 := hatN hat821
          have hE825 := hE811.andMem E820 (memOwn O815 (Nat.le_refl _))
          have := E820.size
          have nm827 := ninN nm799 Q812.lt (nTurn hat824 (nKeep same))
          have Q826 := Q812.step (nTurn hat824 (nKeep same)) E820 (fun h => nm799 (List.mem_append_left _ (h))) (fun _ h => List.mem_append_left _ (h))
          have B828 := B813.eff E820 (O815.apart (List.mem_append_left _ (List.mem_singleton.2 rfl)))
          have nm830 := ninN nm802 B814.lt (nTurn hat824 (nKeep same))
          have B829 := B814.eff E820 (fun h => nm802 (List.mem_append_left _ (h)))
          have nm832 := ninN nm810 B809.lt (nTurn hat824 (nKeep same))
          have B831 := B809.eff E820 (fun h => nm810 (List.mem_append_left _ (h)))
          have hM833 : Mok (ob (.slice a822 (((out ++ [(92 : UInt8)]) ++ [x144]).length) cap823) ++ ([b112] ++ [])) w818 := hM816.step E820 (nTurn (fun b hb => .inr ((fun b hb => (O819.lt b hb).2) b hb)) (nKeep same))
          refine L.runU [4] [] [(4, .slice a822 (((out ++ [(92 : UInt8)]) ++ [x144]).length) cap823)] (by kernel_rfl) (by kernel_rfl) ?_
          refine L.done ?_
          show S _ _ _ c88_n43 _ _ _ _
          refine S.reg (ops := o88_n43) (js := [0, 1]) (by kernel_rfl) (by kernel_rfl) ?_
          refine L.runU [0] [1] [(62, .int .i64 (IntKind.i64.wrap (((k : Nat) : Int) + 1)))] (by kernel_rfl) (by kernel_rfl) ?_
          refine X.re64 (G := fun σ => L _ _ _ _ _ _ σ _ _) (d := 62) (((k : Nat) : Int) + 1) (((k + 1 : Nat) : Int)) (by kernel_rfl) (by omega) ?_
          refine L.runU [1] [] [(11, .int .i64 (((k + 1 : Nat) : Int)))] (by kernel_rfl) (by kernel_rfl) ?_
          refine L.done ?_
          show ∃ m', m' < _ ∧ _
          refine ⟨l.length - (k + 1), ?_, ⟨k + 1, a822, cap823, (out ++ [(92 : UInt8)]) ++ [x144], rfl, (by omega), (by have hx := hx145; first | exact valT_snoc hout hx (by grind [escB, signB, hexD, getD_of]) | (rw [List.append_assoc]; exact valT_snoc hout hx (by grind [escB, signB, hexD, getD_of]))), (by simp only [List.length_append, List.length_cons, List.length_nil]; omega), Q826, nm827, B828, O819, hM833, hE825, (by omega), rfl, _, Holds.eq (l := [(0, sv l), (2, sv []), (3, .map (some b101)), (4, .slice a822 (((out ++ [(92 : UInt8)]) ++ [x144]).length) cap823), (9, .slice (some ⟨b112, 0, none⟩) l.length cap113), (10, .int .i64 (((l.length : Nat) : Int))), (11, .int .i64 (((k + 1 : Nat) : Int)))]) ⟨by kernel_rfl, by kernel_rfl, by kernel_rfl, by kernel_rfl, by kernel_rfl, by kernel_rfl, by kernel_rfl, trivial⟩⟩⟩
          omega
         ·refine S.skip (by kernel_rfl) ?_
          show S _ _ _ c88_n42 _ _ _ _
          refine S.reg (ops := o88_n42) (js := [0, 1, 2, 3, 4]) (by kernel_rfl) (by kernel_rfl) ?_
          refine L.runU [0, 1] [2, 3, 4] [(58, .slice a129 out.length cap130), (59, .int .u8 (x144.toNat : Int))] (by kernel_rfl) (by kernel_rfl) ?_
          refine L.newRow (fun b => .slice (some ⟨b, 0, none⟩) 1 1) [.int .u8 (x144.toNat : Int)] 5 (by kernel_rfl : lookAt _ _ _ _ = some ((Op.buildSlice 128 1 #[(0, (Operand.tmp 59))]), some 60)) (by intro c e; cases e) (fun w => by kernel_rfl) ?_
          intro b834 w835 hs836 hz837 E838 B839
          have nm840 := not_mem_of_ge (b := b834) hM139 (by omega)
          have hE841 := hE140.and0 E838
          have := E838.size
          have Q842 := F135.step same E838 (by simp) no0
          have B843 := F137.eff0 E838
          have O844 := O138.step same E838 no0
          have A845 := A143.step same E838 no0
          have hM846 := hM139.eff E838
          refine L.append (K := Kd.byte) (e := 5) (base := w.heap.size) (bytes := 1) (M := [b112] ++ []) (v := .slice a129 out.length cap130) (xs := out) (ys := [x144]) (a := some ⟨b834, 0, none⟩) (cap := 1) (by kernel_rfl : lookAt _ _ _ _ = some ((Op.call { callee := (Callee.builtin Builtin.append), args := #[(Operand.tmp 58), (Operand.tmp 60)], argTypes := #[128, 128] }), some 61)) (by kernel_rfl) (by kernel_rfl) (by kernel_rfl) (by kernel_rfl) O844 (Sl.one (K := Kd.byte) (x := x144) B839 nm840 rfl) (hM846.sub (sDrop sSame)) (by omega) (by omega) hE841.size ?_
          intro v847 w848 O849 E850 hat851
          obtain ⟨a852, cap853, rfl⟩ := O849.slice
          have hat854 := hatN hat851
          have hE855 := hE841.andMem E850 (memOwn O844 (Nat.le_refl _))
          have := E850.size
          have nm857 := ninN nm136 Q842.lt (nTurn hat854 (nKeep same))
          have Q856 := Q842.step (nTurn hat854 (nKeep same)) E850 (fun h => nm136 (List.mem_append_left _ (h))) (fun _ h => List.mem_append_left _ (h))
          have B858 := B843.eff E850 (O844.apart (List.mem_append_left _ (List.mem_singleton.2 rfl)))
          have nm860 := ninN nm840 B839.lt (nTurn hat854 (nKeep same))
          have B859 := B839.eff E850 (fun h => nm840 (List.mem_append_left _ (h)))
          have hM861 : Mok (ob (.slice a852 ((out ++ [x144]).length) cap853) ++ ([b112] ++ [])) w848 := hM846.step E850 (nTurn (fun b hb => .inr ((fun b hb => (O849.lt b hb).2) b hb)) (nKeep same))
          refine L.runU [4] [] [(4, .slice a852 ((out ++ [x144]).length) cap853)] (by kernel_rfl) (by kernel_rfl) ?_
          refine L.done ?_
          show S _ _ _ c88_n43 _ _ _ _
          refine S.reg (ops := o88_n43) (js := [0, 1]) (by kernel_rfl) (by kernel_rfl) ?_
          refine L.runU [0] [1] [(62, .int .i64 (IntKind.i64.wrap (((k : Nat) : Int) + 1)))] (by kernel_rfl) (by kernel_rfl) ?_
          refine X.re64 (G := fun σ => L _ _ _ _ _ _ σ _ _) (d := 62) (((k : Nat) : Int) + 1) (((k + 1 : Nat) : Int)) (by kernel_rfl) (by omega) ?_
          refine L.runU [1] [] [(11, .int .i64 (((k + 1 : Nat) : Int)))] (by kernel_rfl) (by kernel_rfl) ?_
          refine L.done ?_
          show ∃ m', m' < _ ∧ _
          refine ⟨l.length - (k + 1), ?_, ⟨k + 1, a852, cap853, out ++ [x144], rfl, (by omega), (by have hx := hx145; first | exact valT_snoc hout hx (by grind [escB, signB, hexD, getD_of]) | (rw [List.append_assoc]; exact valT_snoc hout hx (by grind [escB, signB, hexD, getD_of]))), (by simp only [List.length_append, List.length_cons, List.length_nil]; omega), Q856, nm857, B858, O849, hM861, hE855, (by omega), rfl, _, Holds.eq (l := [(0, sv l), (2, sv []), (3, .map (some b101)), (4, .slice a852 ((out ++ [x144]).length) cap853), (9, .slice (some ⟨b112, 0, none⟩) l.length cap113), (10, .int .i64 (((l.length : Nat) : Int))), (11, .int .i64 (((k + 1 : Nat) : Int)))]) ⟨by kernel_rfl, by kernel_rfl, by kernel_rfl, by kernel_rfl, by kernel_rfl, by kernel_rfl, by kernel_rfl, trivial⟩⟩⟩
          omega
        ·refine S.reg (ops := o88_n38) (js := [0, 1, 2, 3, 4, 5, 6, 7, 8, 9]) (by kernel_rfl) (by kernel_rfl) ?_
         refine L.runU [0, 1, 2, 3] [4, 5, 6, 7, 8, 9] [(46, .int .i64 (((k : Nat) : Int))), (47, sv l), (48, .int .i64 (((l.length : Nat) : Int))), (49, .int .i64 (IntKind.i64.wrap (((l.length : Nat) : Int) - 1)))] (by kernel_rfl) (by kernel_rfl) ?_
         refine X.re64 (G := fun σ => L _ _ _ _ _ _ σ _ _) (d := 49) (((l.length : Nat) : Int) - 1) (((l.length : Nat) : Int) - 1) (by kernel_rfl) (by omega) ?_
         refine L.runU [4, 5] [6, 7, 8, 9] [(50, .bool (decide (((k : Nat) : Int) = ((l.length : Nat) : Int) - 1))), (51, .bool (decide (((k : Nat) : Int) = ((l.length : Nat) : Int) - 1)))] (by kernel_rfl) (by kernel_rfl) ?_
         refine X.splitP (G := fun σ => L _ _ _ _ _ _ σ _ _) (((k : Nat) : Int) = ((l.length : Nat) : Int) - 1) 51 (by kernel_rfl) (fun h862 => ?_) (fun h862 => ?_)
         ·refine L.runU [6, 7, 8, 9] [] [(52, .int .u8 (x144.toNat : Int)), (53, .bool (decide ((x144.toNat : Int) = 32))), (54, .bool (decide ((x144.toNat : Int) = 32))), (32, .bool (decide ((x144.toNat : Int) = 32)))] (by kernel_rfl) (by kernel_rfl) ?_
          refine L.done ?_
          show S _ _ _ c88_n39 _ _ _ _
          refine S.condP ((x144.toNat : Int) = 32) (o := (Operand.tmp 32)) (x := c88_n40) (y := c88_n41) (by kernel_rfl) (by kernel_rfl) (fun h863 => ?_) (fun h863 => ?_)
          ·refine S.reg (ops := o88_n40) (js := [0, 1, 2, 3]) (by kernel_rfl) (by kernel_rfl) ?_
           refine L.runU [0] [1, 2, 3] [(55, .slice a129 out.length cap130)] (by kernel_rfl) (by kernel_rfl) ?_
           refine L.newRow (fun b => .slice (some ⟨b, 0, none⟩) 1 1) [.int .u8 92] 5 (by kernel_rfl : lookAt _ _ _ _ = some ((Op.buildSlice 128 1 #[(0, (Operand.const (Value.int IntKind.u8 92)))]), some 56)) (by intro c e; cases e) (fun w => by kernel_rfl) ?_
           intro b864 w865 hs866 hz867 E868 B869
           have nm870 := not_mem_of_ge (b := b864) hM139 (by omega)
           have hE871 := hE140.and0 E868
           have := E868.size
           have Q872 := F135.step same E868 (by simp) no0
           have B873 := F137.eff0 E868
           have O874 := O138.step same E868 no0
           have A875 := A143.step same E868 no0
           have hM876 := hM139.eff E868
           refine L.append (K := Kd.byte) (e := 5) (base := w.heap.size) (bytes := 1) (M := [b112] ++ []) (v := .slice a129 out.length cap130) (xs := out) (ys := [(92 : UInt8)]) (a := some ⟨b864, 0, none⟩) (cap := 1) (by kernel_rfl : lookAt _ _ _ _ = some ((Op.call { callee := (Callee.builtin Builtin.append), args := #[(Operand.tmp 55), (Operand.tmp 56)], argTypes := #[128, 128] }), some 57)) (by kernel_rfl) (by kernel_rfl) (by kernel_rfl) (by kernel_rfl) O874 (Sl.one (K := Kd.byte) (x := (92 : UInt8)) B869 nm870 rfl) (hM876.sub (sDrop sSame)) (by omega) (by omega) hE871.size ?_
           intro v877 w878 O879 E880 hat881
           obtain ⟨a882, cap883, rfl⟩ := O879.slice
           have hat884 := hatN hat881
           have hE885 := hE871.andMem E880 (memOwn O874 (Nat.le_refl _))
           have := E880.size
           have nm887 := ninN nm136 Q872.lt (nTurn hat884 (nKeep same))
           have Q886 := Q872.step (nTurn hat884 (nKeep same)) E880 (fun h => nm136 (List.mem_append_left _ (h))) (fun _ h => List.mem_append_left _ (h))
           have B888 := B873.eff E880 (O874.apart (List.mem_append_left _ (List.mem_singleton.2 rfl)))
           have nm890 := ninN nm870 B869.lt (nTurn hat884 (nKeep same))
           have B889 := B869.eff E880 (fun h => nm870 (List.mem_append_left _ (h)))
           have hM891 : Mok (ob (.slice a882 ((out ++ [(92 : UInt8)]).length) cap883) ++ ([b112] ++ [])) w878 := hM876.step E880 (nTurn (fun b hb => .inr ((fun b hb => (O879.lt b hb).2) b hb)) (nKeep same))
           refine L.runU [3] [] [(4, .slice a882 ((out ++ [(92 : UInt8)]).length) cap883)] (by kernel_rfl) (by kernel_rfl) ?_
           refine L.done ?_
           show S _ _ _ c88_n42 _ _ _ _
           refine S.reg (ops := o88_n42) (js := [0, 1, 2, 3, 4]) (by kernel_rfl) (by kernel_rfl) ?_
           refine L.runU [0, 1] [2, 3, 4] [(58, .slice a882 ((out ++ [(92 : UInt8)]).length) cap883), (59, .int .u8 (x144.toNat : Int))] (by kernel_rfl) (by kernel_rfl) ?_
           refine L.newRow (fun b => .slice (some ⟨b, 0, none⟩) 1 1) [.int .u8 (x144.toNat : Int)] 5 (by kernel_rfl : lookAt _ _ _ _ = some ((Op.buildSlice 128 1 #[(0, (Operand.tmp 59))]), some 60)) (by intro c e; cases e) (fun w => by kernel_rfl) ?_
           intro b892 w893 hs894 hz895 E896 B897
           have nm898 := not_mem_of_ge (b := b892) hM891 (by omega)
           have hE899 := hE885.and0 E896
           have := E896.size
           have Q900 := Q886.step same E896 (by simp) no0
           have B901 := B888.eff0 E896
           have B902 := B889.eff0 E896
           have O903 := O879.step same E896 no0
           have hM904 := hM891.eff E896
           refine L.append (K := Kd.byte) (e := 5) (base := w.heap.size) (bytes := 1) (M := [b112] ++ []) (v := .slice a882 ((out ++ [(92 : UInt8)]).length) cap883) (xs := out ++ [(92 : UInt8)]) (ys := [x144]) (a := some ⟨b892, 0, none⟩) (cap := 1) (by kernel_rfl : lookAt _ _ _ _ = some ((Op.call { callee := (Callee.builtin Builtin.append), args := #[(Operand.tmp 58), (Operand.tmp 60)], argTypes := #[128, 128] }), some 61)) (by kernel_rfl) (by kernel_rfl) (by kernel_rfl) (by kernel_rfl) O903 (Sl.one (K := Kd.byte) (x := x144) B897 nm898 rfl) (hM904.sub (sDrop sSame)) (by omega) (by omega) hE899.size ?_
           intro v905 w906 O907 E908 hat909
           obtain ⟨a910, cap911, rfl⟩ := O907.slice
           have hat912 := hatN hat909
           have hE913 := hE899.andMem E908 (memOwn O903 (Nat.le_refl _))
           have := E908.size
           have nm915 := ninN nm887 Q900.lt (nTurn hat912 (nKeep same))
           have Q914 := Q900.step (nTurn hat912 (nKeep same)) E908 (fun h => nm887 (List.mem_append_left _ (h))) (fun _ h => List.mem_append_left _ (h))
           have B916 := B901.eff E908 (O903.apart (List.mem_append_left _ (List.mem_singleton.2 rfl)))
           have nm918 := ninN nm890 B902.lt (nTurn hat912 (nKeep same))
           have B917 := B902.eff E908 (fun h => nm890 (List.mem_append_left _ (h)))
           have nm920 := ninN nm898 B897.lt (nTurn hat912 (nKeep same))
           have B919 := B897.eff E908 (fun h => nm898 (List.mem_append_left _ (h)))
           have hM921 : Mok (ob (.slice a910 (((out ++ [(92 : UInt8)]) ++ [x144]).length) cap911) ++ ([b112] ++ [])) w906 := hM904.step E908 (nTurn (fun b hb => .inr ((fun b hb => (O907.lt b hb).2) b hb)) (nKeep same))
           refine L.runU [4] [] [(4, .slice a910 (((out ++ [(92 : UInt8)]) ++ [x144]).length) cap911)] (by kernel_rfl) (by kernel_rfl) ?_
           refine L.done ?_
           show S _ _ _ c88_n43 _ _ _ _
           refine S.reg (ops := o88_n43) (js := [0, 1]) (by kernel_rfl) (by kernel_rfl) ?_
           refine L.runU [0] [1] [(62, .int .i64 (IntKind.i64.wrap (((k : Nat) : Int) + 1)))] (by kernel_rfl) (by kernel_rfl) ?_
           refine X.re64 (G := fun σ => L _ _ _ _ _ _ σ _ _) (d := 62) (((k : Nat) : Int) + 1) (((k + 1 : Nat) : Int)) (by kernel_rfl) (by omega) ?_
           refine L.runU [1] [] [(11, .int .i64 (((k + 1 : Nat) : Int)))] (by kernel_rfl) (by kernel_rfl) ?_
           refine L.done ?_
           show ∃ m', m' < _ ∧ _
           refine ⟨l.length - (k + 1), ?_, ⟨k + 1, a910, cap911, (out ++ [(92 : UInt8)]) ++ [x144], rfl, (by omega), (by have hx := hx145; first | exact valT_snoc hout hx (by grind [escB, signB, hexD, getD_of]) | (rw [List.append_assoc]; exact valT_snoc hout hx (by grind [escB, signB, hexD, getD_of]))), (by simp only [List.length_append, List.length_cons, List.length_nil]; omega), Q914, nm915, B916, O907, hM921, hE913, (by omega), rfl, _, Holds.eq (l := [(0, sv l), (2, sv []), (3, .map (some b101)), (4, .slice a910 (((out ++ [(92 : UInt8)]) ++ [x144]).length) cap911), (9, .slice (some ⟨b112, 0, none⟩) l.length cap113), (10, .int .i64 (((l.length : Nat) : Int))), (11, .int .i64 (((k + 1 : Nat) : Int)))]) ⟨by kernel_rfl, by kernel_rfl, by kernel_rfl, by kernel_rfl, by kernel_rfl, by kernel_rfl, by kernel_rfl, trivial⟩⟩⟩
           omega
          ·refine S.skip (by kernel_rfl) ?_
           show S _ _ _ c88_n42 _ _ _ _
           refine S.reg (ops := o88_n42) (js := [0, 1, 2, 3, 4]) (by kernel_rfl) (by kernel_rfl) ?_
           refine L.runU [0, 1] [2, 3, 4] [(58, .slice a129 out.length cap130), (59, .int .u8 (x144.toNat : Int))] (by kernel_rfl) (by kernel_rfl) ?_
           refine L.newRow (fun b => .slice (some ⟨b, 0, none⟩) 1 1) [.int .u8 (x144.toNat : Int)] 5 (by kernel_rfl : lookAt _ _ _ _ = some ((Op.buildSlice 128 1 #[(0, (Operand.tmp 59))]), some 60)) (by intro c e; cases e) (fun w => by kernel_rfl) ?_
           intro b922 w923 hs924 hz925 E926 B927
           have nm928 := not_mem_of_ge (b := b922) hM139 (by omega)
           have hE929 := hE140.and0 E926
           have := E926.size
           have Q930 := F135.step same E926 (by simp) no0
           have B931 := F137.eff0 E926
           have O932 := O138.step same E926 no0
           have A933 := A143.step same E926 no0
           have hM934 := hM139.eff E926
           refine L.append (K := Kd.byte) (e := 5) (base := w.heap.size) (bytes := 1) (M := [b112] ++ []) (v := .slice a129 out.length cap130) (xs := out) (ys := [x144]) (a := some ⟨b922, 0, none⟩) (cap := 1) (by kernel_rfl : lookAt _ _ _ _ = some ((Op.call { callee := (Callee.builtin Builtin.append), args := #[(Operand.tmp 58), (Operand.tmp 60)], argTypes := #[128, 128] }), some 61)) (by kernel_rfl) (by kernel_rfl) (by kernel_rfl) (by kernel_rfl) O932 (Sl.one (K := Kd.byte) (x := x144) B927 nm928 rfl) (hM934.sub (sDrop sSame)) (by (simp only [List.length_cons, List.length_nil, List.length_append, List.length_take, List.length_drop, List.length_map, List.length_replicate] <;> omega)) (by omega) hE929.size ?_
           intro v935 w936 O937 E938 hat939
           obtain ⟨a940, cap941, rfl⟩ := O937.slice
           have hat942 := hatN hat939
           have hE943 := hE929.andMem E938 (memOwn O932 (Nat.le_refl _))
           have := E938.size
           have nm945 := ninN nm136 Q930.lt (nTurn hat942 (nKeep same))
           have Q944 := Q930.step (nTurn hat942 (nKeep same)) E938 (fun h => nm136 (List.mem_append_left _ (h))) (fun _ h => List.mem_append_left _ (h))
           have B946 := B931.eff E938 (O932.apart (List.mem_append_left _ (List.mem_singleton.2 rfl)))
           have nm948 := ninN nm928 B927.lt (nTurn hat942 (nKeep same))
           have B947 := B927.eff E938 (fun h => nm928 (List.mem_append_left _ (h)))
           have hM949 : Mok (ob (.slice a940 ((out ++ [x144]).length) cap941) ++ ([b112] ++ [])) w936 := hM934.step E938 (nTurn (fun b hb => .inr ((fun b hb => (O937.lt b hb).2) b hb)) (nKeep same))
           refine L.runU [4] [] [(4, .slice a940 ((out ++ [x144]).length) cap941)] (by kernel_rfl) (by kernel_rfl) ?_
           refine L.done ?_
           show S _ _ _ c88_n43 _ _ _ _
           refine S.reg (ops := o88_n43) (js := [0, 1]) (by kernel_rfl) (by kernel_rfl) ?_
           refine L.runU [0] [1] [(62, .int .i64 (IntKind.i64.wrap (((k : Nat) : Int) + 1)))] (by kernel_rfl) (by kernel_rfl) ?_
           refine X.re64 (G := fun σ => L _ _ _ _ _ _ σ _ _) (d := 62) (((k : Nat) : Int) + 1) (((k + 1 : Nat) : Int)) (by kernel_rfl) (by omega) ?_
           refine L.runU [1] [] [(11, .int .i64 (((k + 1 : Nat) : Int)))] (by kernel_rfl) (by kernel_rfl) ?_
           refine L.done ?_
           show ∃ m', m' < _ ∧ _
           refine ⟨l.length - (k + 1), ?_, ⟨k + 1, a940, cap941, out ++ [x144], rfl, (by omega), (by have hx := hx145; first | exact valT_snoc hout hx (by grind [escB, signB, hexD, getD_of]) | (rw [List.append_assoc]; exact valT_snoc hout hx (by grind [escB, signB, hexD, getD_of]))), (by simp only [List.length_append, List.length_cons, List.length_nil]; omega), Q944, nm945, B946, O937, hM949, hE943, (by omega), rfl, _, Holds.eq (l := [(0, sv l), (2, sv []), (3, .map (some b101)), (4, .slice a940 ((out ++ [x144]).length) cap941), (9, .slice (some ⟨b112, 0, none⟩) l.length cap113), (10, .int .i64 (((l.length : Nat) : Int))), (11, .int .i64 (((k + 1 : Nat) : Int)))]) ⟨by kernel_rfl, by kernel_rfl, by kernel_rfl, by kernel_rfl, by kernel_rfl, by kernel_rfl, by kernel_rfl, trivial⟩⟩⟩
           omega
         ·refine L.runU [6, 7, 8, 9] [] [(52, undef), (53, undef), (54, .bool false), (32, .bool false)] (by kernel_rfl) (by kernel_rfl) ?_
          refine L.done ?_
          show S _ _ _ c88_n39 _ _ _ _
          refine S.condF (o := (Operand.tmp 32)) (x := c88_n40) (y := c88_n41) (by kernel_rfl) (by kernel_rfl) ?_
          refine S.skip (by kernel_rfl) ?_
          show S _ _ _ c88_n42 _ _ _ _
          refine S.reg (ops := o88_n42) (js := [0, 1, 2, 3, 4]) (by kernel_rfl) (by kernel_rfl) ?_
          refine L.runU [0, 1] [2, 3, 4] [(58, .slice a129 out.length cap130), (59, .int .u8 (x144.toNat : Int))] (by kernel_rfl) (by kernel_rfl) ?_
          refine L.newRow (fun b => .slice (some ⟨b, 0, none⟩) 1 1) [.int .u8 (x144.toNat : Int)] 5 (by kernel_rfl : lookAt _ _ _ _ = some ((Op.buildSlice 128 1 #[(0, (Operand.tmp 59))]), some 60)) (by intro c e; cases e) (fun w => by kernel_rfl) ?_
          intro b950 w951 hs952 hz953 E954 B955
          have nm956 := not_mem_of_ge (b := b950) hM139 (by omega)
          have hE957 := hE140.and0 E954
          have := E954.size
          have Q958 := F135.step same E954 (by simp) no0
          have B959 := F137.eff0 E954
          have O960 := O138.step same E954 no0
          have A961 := A143.step same E954 no0
          have hM962 := hM139.eff E954
          refine L.append (K := Kd.byte) (e := 5) (base := w.heap.size) (bytes := 1) (M := [b112] ++ []) (v := .slice a129 out.length cap130) (xs := out) (ys := [x144]) (a := some ⟨b950, 0, none⟩) (cap := 1) (by kernel_rfl : lookAt _ _ _ _ = some ((Op.call { callee := (Callee.builtin Builtin.append), args := #[(Operand.tmp 58), (Operand.tmp 60)], argTypes := #[128, 128] }), some 61)) (by kernel_rfl) (by kernel_rfl) (by kernel_rfl) (by kernel_rfl) O960 (Sl.one (K := Kd.byte) (x := x144) B955 nm956 rfl) (hM962.sub (sDrop sSame)) (by (simp only [List.length_cons, List.length_nil, List.length_append, List.length_take, List.length_drop, List.length_map, List.length_replicate] <;> omega)) (by omega) hE957.size ?_
          intro v963 w964 O965 E966 hat967
          obtain ⟨a968, cap969, rfl⟩ := O965.slice
          have hat970 := hatN hat967
          have hE971 := hE957.andMem E966 (memOwn O960 (Nat.le_refl _))
          have := E966.size
          have nm973 := ninN nm136 Q958.lt (nTurn hat970 (nKeep same))
          have Q972 := Q958.step (nTurn hat970 (nKeep same)) E966 (fun h => nm136 (List.mem_append_left _ (h))) (fun _ h => List.mem_append_left _ (h))
          have B974 := B959.eff E966 (O960.apart (List.mem_append_left _ (List.mem_singleton.2 rfl)))
          have nm976 := ninN nm956 B955.lt (nTurn hat970 (nKeep same))
          have B975 := B955.eff E966 (fun h => nm956 (List.mem_append_left _ (h)))
          have hM977 : Mok (ob (.slice a968 ((out ++ [x144]).length) cap969) ++ ([b112] ++ [])) w964 := hM962.step E966 (nTurn (fun b hb => .inr ((fun b hb => (O965.lt b hb).2) b hb)) (nKeep same))
          refine L.runU [4] [] [(4, .slice a968 ((out ++ [x144]).length) cap969)] (by kernel_rfl) (by kernel_rfl) ?_
          refine L.done ?_
          show S _ _ _ c88_n43 _ _ _ _
          refine S.reg (ops := o88_n43) (js := [0, 1]) (by kernel_rfl) (by kernel_rfl) ?_
          refine L.runU [0] [1] [(62, .int .i64 (IntKind.i64.wrap (((k : Nat) : Int) + 1)))] (by kernel_rfl) (by kernel_rfl) ?_
          refine X.re64 (G := fun σ => L _ _ _ _ _ _ σ _ _) (d := 62) (((k : Nat) : Int) + 1) (((k + 1 : Nat) : Int)) (by kernel_rfl) (by omega) ?_
          refine L.runU [1] [] [(11, .int .i64 (((k + 1 : Nat) : Int)))] (by kernel_rfl) (by kernel_rfl) ?_
          refine L.done ?_
          show ∃ m', m' < _ ∧ _
          refine ⟨l.length - (k + 1), ?_, ⟨k + 1, a968, cap969, out ++ [x144], rfl, (by omega), (by have hx := hx145; first | exact valT_snoc hout hx (by grind [escB, signB, hexD, getD_of]) | (rw [List.append_assoc]; exact valT_snoc hout hx (by grind [escB, signB, hexD, getD_of]))), (by simp only [List.length_append, List.length_cons, List.length_nil]; omega), Q972, nm973, B974, O965, hM977, hE971, (by omega), rfl, _, Holds.eq (l := [(0, sv l), (2, sv []), (3, .map (some b101)), (4, .slice a968 ((out ++ [x144]).length) cap969), (9, .slice (some ⟨b112, 0, none⟩) l.length cap113), (10, .int .i64 (((l.length : Nat) : Int))), (11, .int .i64 (((k + 1 : Nat) : Int)))]) ⟨by kernel_rfl, by kernel_rfl, by kernel_rfl, by kernel_rfl, by kernel_rfl, by kernel_rfl, by kernel_rfl, trivial⟩⟩⟩
          omega
      ·refine L.runU [3, 4, 5, 6, 7, 8, 9, 10] [] [(39, undef), (40, undef), (41, undef), (42, undef), (43, undef), (44, undef), (45, .bool false), (32, .bool false)] (by kernel_rfl) (by kernel_rfl) ?_
       refine L.done ?_
       show S _ _ _ c88_n36 _ _ _ _
       refine S.condF (o := (Operand.tmp 32)) (x := c88_n37) (y := c88_n38) (by kernel_rfl) (by kernel_rfl) ?_
       refine S.reg (ops := o88_n38) (js := [0, 1, 2, 3, 4, 5, 6, 7, 8, 9]) (by kernel_rfl) (by kernel_rfl) ?_
       refine L.runU [0, 1, 2, 3] [4, 5, 6, 7, 8, 9] [(46, .int .i64 (((k : Nat) : Int))), (47, sv l), (48, .int .i64 (((l.length : Nat) : Int))), (49, .int .i64 (IntKind.i64.wrap (((l.length : Nat) : Int) - 1)))] (by kernel_rfl) (by kernel_rfl) ?_
       refine X.re64 (G := fun σ => L _ _ _ _ _ _ σ _ _) (d := 49) (((l.length : Nat) : Int) - 1) (((l.length : Nat) : Int) - 1) (by kernel_rfl) (by omega) ?_
       refine L.runU [4, 5] [6, 7, 8, 9] [(50, .bool (decide (((k : Nat) : Int) = ((l.length : Nat) : Int) - 1))), (51, .bool (decide (((k : Nat) : Int) = ((l.length : Nat) : Int) - 1)))] (by kernel_rfl) (by kernel_rfl) ?_
       refine X.splitP (G := fun σ => L _ _ _ _ _ _ σ _ _) (((k : Nat) : Int) = ((l.length : Nat) : Int) - 1) 51 (by kernel_rfl) (fun h978 => ?_) (fun h978 => ?_)
       ·refine L.runU [6, 7, 8, 9] [] [(52, .int .u8 (x144.toNat : Int)), (53, .bool (decide ((x144.toNat : Int) = 32))), (54, .bool (decide ((x144.toNat : Int) = 32))), (32, .bool (decide ((x144.toNat : Int) = 32)))] (by kernel_rfl) (by kernel_rfl) ?_
        refine L.done ?_
        show S _ _ _ c88_n39 _ _ _ _
        refine S.condP ((x144.toNat : Int) = 32) (o := (Operand.tmp 32)) (x := c88_n40) (y := c88_n41) (by kernel_rfl) (by kernel_rfl) (fun h979 => ?_) (fun h979 => ?_)
        ·refine S.reg (ops := o88_n40) (js := [0, 1, 2, 3]) (by kernel_rfl) (by kernel_rfl) ?_
         refine L.runU [0] [1, 2, 3] [(55, .slice a129 out.length cap130)] (by kernel_rfl) (by kernel_rfl) ?_
         refine L.newRow (fun b => .slice (some ⟨b, 0, none⟩) 1 1) [.int .u8 92] 5 (by kernel_rfl : lookAt _ _ _ _ = some ((Op.buildSlice 128 1 #[(0, (Operand.const (Value.int IntKind.u8 92)))]), some 56)) (by intro c e; cases e) (fun w => by kernel_rfl) ?_
         intro b980 w981 hs982 hz983 E984 B985
         have nm986 := not_mem_of_ge (b := b980) hM139 (by omega)
         have hE987 := hE140.and0 E984
         have := E984.size
         have Q988 := F135.step same E984 (by simp) no0
         have B989 := F137.eff0 E984
         have O990 := O138.step same E984 no0
         have A991 := A143.step same E984 no0
         have hM992 := hM139.eff E984
         refine L.append (K := Kd.byte) (e := 5) (base := w.heap.size) (bytes := 1) (M := [b112] ++ []) (v := .slice a129 out.length cap130) (xs := out) (ys := [(92 : UInt8)]) (a := some ⟨b980, 0, none⟩) (cap := 1) (by kernel_rfl : lookAt _ _ _ _ = some ((Op.call { callee := (Callee.builtin Builtin.append), args := #[(Operand.tmp 55), (Operand.tmp 56)], argTypes := #[128, 128] }), some 57)) (by kernel_rfl) (by kernel_rfl) (by kernel_rfl) (by kernel_rfl) O990 (Sl.one (K := Kd.byte) (x := (92 : UInt8)) B985 nm986 rfl) (hM992.sub (sDrop sSame)) (by (simp only [List.length_cons, List.length_nil, List.length_append, List.length_take, List.length_drop, List.length_map, List.length_replicate] <;> omega)) (by omega) hE987.size ?_
         intro v993 w994 O995 E996 hat997
         obtain ⟨a998, cap999, rfl⟩ := O995.slice
         have hat1000 := hatN hat997
         have hE1001 := hE987.andMem E996 (memOwn O990 (Nat.le_refl _))
         have := E996.size
         have nm1003 := ninN nm136 Q988.lt (nTurn hat1000 (nKeep same))
         have Q1002 := Q988.step (nTurn hat1000 (nKeep same)) E996 (fun h => nm136 (List.mem_append_left _ (h))) (fun _ h => List.mem_append_left _ (h))
         have B1004 := B989.eff E996 (O990.apart (List.mem_append_left _ (List.mem_singleton.2 rfl)))
         have nm1006 := ninN nm986 B985.lt (nTurn hat1000 (nKeep same))
         have B1005 := B985.eff E996 (fun h => nm986 (List.mem_append_left _ (h)))
         have hM1007 : Mok (ob (.slice a998 ((out ++ [(92 : UInt8)]).length) cap999) ++ ([b112] ++ [])) w994 := hM992.step E996 (nTurn (fun b hb => .inr ((fun b hb => (O995.lt b hb).2) b hb)) (nKeep same))
         refine L.runU [3] [] [(4, .slice a998 ((out ++ [(92 : UInt8)]).length) cap999)] (by kernel_rfl) (by kernel_rfl) ?_
         refine L.done ?_
         show S _ _ _ c88_n42 _ _ _ _
         refine S.reg (ops := o88_n42) (js := [0, 1, 2, 3, 4]) (by kernel_rfl) (by kernel_rfl) ?_
         refine L.runU [0, 1] [2, 3, 4] [(58, .slice a998 ((out ++ [(92 : UInt8)]).length) cap999), (59, .int .u8 (x144.toNat : Int))] (by kernel_rfl) (by kernel_rfl) ?_
         refine L.newRow (fun b => .slice (some ⟨b, 0, none⟩) 1 1) [.int .u8 (x144.toNat : Int)] 5 (by kernel_rfl : lookAt _ _ _ _ = some ((Op.buildSlice 128 1 #[(0, (Operand.tmp 59))]), some 60)) (by intro c e; cases e) (fun w => by kernel_rfl) ?_
         intro b1008 w1009 hs1010 hz1011 E1012 B1013
         have nm1014 := not_mem_of_ge (b := b1008) hM1007 (by omega)
         have hE1015 := hE1001.and0 E1012
         have := E1012.size
         have Q1016 := Q1002.step same E1012 (by simp) no0
         have B1017 := B1004.eff0 E1012
         have B1018 := B1005.eff0 E1012
         have O1019 := O995.step same E1012 no0
         have hM1020 := hM1007.eff E1012
         refine L.append (K := Kd.byte) (e := 5) (base := w.heap.size) (bytes := 1) (M := [b112] ++ []) (v := .slice a998 ((out ++ [(92 : UInt8)]).length) cap999) (xs := out ++ [(92 : UInt8)]) (ys := [x144]) (a := some ⟨b1008, 0, none⟩) (cap := 1) (by kernel_rfl : lookAt _ _ _ _ = some ((Op.call { callee := (Callee.builtin Builtin.append), args := #[(Operand.tmp 58), (Operand.tmp 60)], argTypes := #[128, 128] }), some 61)) (by kernel_rfl) (by kernel_rfl) (by kernel_rfl) (by kernel_rfl) O1019 (Sl.one (K := Kd.byte) (x := x144) B1013 nm1014 rfl) (hM1020.sub (sDrop sSame)) (by (simp only [List.length_cons, List.length_nil, List.length_append, List.length_take, List.length_drop, List.length_map, List.length_replicate] <;> omega)) (by omega) hE1015.size ?_
         intro v1021 w1022 O1023 E1024 hat1025
         obtain ⟨a1026, cap1027, rfl⟩ := O1023.slice
         have hat1028 := hatN hat1025
         have hE1029 := hE1015.andMem E1024 (memOwn O1019 (Nat.le_refl _))
         have := E1024.size
         have nm1031 := ninN nm1003 Q1016.lt (nTurn hat1028 (nKeep same))
         have Q1030 := Q1016.step (nTurn hat1028 (nKeep same)) E1024 (fun h => nm1003 (List.mem_append_left _ (h))) (fun _ h => List.mem_append_left _ (h))
         have B1032 := B1017.eff E1024 (O1019.apart (List.mem_append_left _ (List.mem_singleton.2 rfl)))
         have nm1034 := ninN nm1006 B1018.lt (nTurn hat1028 (nKeep same))
         have B1033 := B1018.eff E1024 (fun h => nm1006 (List.mem_append_left _ (h)))
         have nm1036 := ninN nm1014 B1013.lt (nTurn hat1028 (nKeep same))
         have B1035 := B1013.eff E1024 (fun h => nm1014 (List.mem_append_left _ (h)))
         have hM1037 : Mok (ob (.slice a1026 (((out ++ [(92 : UInt8)]) ++ [x144]).length) cap1027) ++ ([b112] ++ [])) w1022 := hM1020.step E1024 (nTurn (fun b hb => .inr ((fun b hb => (O1023.lt b hb).2) b hb)) (nKeep same))
         refine L.runU [4] [] [(4, .slice a1026 (((out ++ [(92 : UInt8)]) ++ [x144]).length) cap1027)] (by kernel_rfl) (by kernel_rfl) ?_
         refine L.done ?_
         show S _ _ _ c88_n43 _ _ _ _
         refine S.reg (ops := o88_n43) (js := [0, 1]) (by kernel_rfl) (by kernel_rfl) ?_
         refine L.runU [0] [1] [(62, .int .i64 (IntKind.i64.wrap (((k : Nat) : Int) + 1)))] (by kernel_rfl) (by kernel_rfl) ?_
         refine X.re64 (G := fun σ => L _ _ _ _ _ _ σ _ _) (d := 62) (((k : Nat) : Int) + 1) (((k + 1 : Nat) : Int)) (by kernel_rfl) (by omega) ?_
         refine L.runU [1] [] [(11, .int .i64 (((k + 1 : Nat) : Int)))] (by kernel_rfl) (by kernel_rfl) ?_
         refine L.done ?_
         show ∃ m', m' < _ ∧ _
         refine ⟨l.length - (k + 1), ?_, ⟨k + 1, a1026, cap1027, (out ++ [(92 : UInt8)]) ++ [x144], rfl, (by omega), (by have hx := hx145; first | exact valT_snoc hout hx (by grind [escB, signB, hexD, getD_of]) | (rw [List.append_assoc]; exact valT_snoc hout hx (by grind [escB, signB, hexD, getD_of]))), (by simp only [List.length_append, List.length_cons, List.length_nil]; omega), Q1030, nm1031, B1032, O1023, hM1037, hE1029, (by omega), rfl, _, Holds.eq (l := [(0, sv l), (2, sv []), (3, .map (some b101)), (4, .slice a1026 (((out ++ [(92 : UInt8)]) ++ [x144]).length) cap1027), (9, .slice (some ⟨b112, 0, none⟩) l.length cap113), (10, .int .i64 (((l.length : Nat) : Int))), (11, .int .i64 (((k + 1 : Nat) : Int)))]) ⟨by kernel_rfl, by kernel_rfl, by kernel_rfl, by kernel_rfl, by kernel_rfl, by kernel_rfl, by kernel_rfl, trivial⟩⟩⟩
         omega
        ·refine S.skip (by kernel_rfl) ?_
         show S _ _ _ c88_n42 _ _ _ _
         refine S.reg (ops := o88_n42) (js := [0, 1, 2, 3, 4]) (by kernel_rfl) (by kernel_rfl) ?_
         refine L.runU [0, 1] [2, 3, 4] [(58, .slice a129 out.length cap130), (59, .int .u8 (x144.toNat : Int))] (by kernel_rfl) (by kernel_rfl) ?_
         refine L.newRow (fun b => .slice (some ⟨b, 0, none⟩) 1 1) [.int .u8 (x144.toNat : Int)] 5 (by kernel_rfl : lookAt _ _ _ _ = some ((Op.buildSlice 128 1 #[(0, (Operand.tmp 59))]), some 60)) (by intro c e; cases e) (fun w => by kernel_rfl) ?_
         intro b1038 w1039 hs1040 hz1041 E1042 B1043
         have nm1044 := not_mem_of_ge (b := b1038) hM139 (by omega)
         have hE1045 := hE140.and0 E1042
         have := E1042.size
         have Q1046 := F135.step same E1042 (by simp) no0
         have B1047 := F137.eff0 E1042
         have O1048 := O138.step same E1042 no0
         have A1049 := A143.step same E1042 no0
         have hM1050 := hM139.eff E1042
         refine L.append (K := Kd.byte) (e := 5) (base := w.heap.size) (bytes := 1) (M := [b112] ++ []) (v := .slice a129 out.length cap130) (xs := out) (ys := [x144]) (a := some ⟨b1038, 0, none⟩) (cap := 1) (by kernel_rfl : lookAt _ _ _ _ = some ((Op.call { callee := (Callee.builtin Builtin.append), args := #[(Operand.tmp 58), (Operand.tmp 60)], argTypes := #[128, 128] }), some 61)) (by kernel_rfl) (by kernel_rfl) (by kernel_rfl) (by kernel_rfl) O1048 (Sl.one (K := Kd.byte) (x := x144) B1043 nm1044 rfl) (hM1050.sub (sDrop sSame)) (by (simp only [List.length_cons, List.length_nil, List.length_append, List.length_take, List.length_drop, List.length_map, List.length_replicate] <;> omega)) (by omega) hE1045.size ?_
         intro v1051 w1052 O1053 E1054 hat1055
         obtain ⟨a1056, cap1057, rfl⟩ := O1053.slice
         have hat1058 := hatN hat1055
         have hE1059 := hE1045.andMem E1054 (memOwn O1048 (Nat.le_refl _))
         have := E1054.size
         have nm1061 := ninN nm136 Q1046.lt (nTurn hat1058 (nKeep same))
         have Q1060 := Q1046.step (nTurn hat1058 (nKeep same)) E1054 (fun h => nm136 (List.mem_append_left _ (h))) (fun _ h => List.mem_append_left _ (h))
         have B1062 := B1047.eff E1054 (O1048.apart (List.mem_append_left _ (List.mem_singleton.2 rfl)))
         have nm1064 := ninN nm1044 B1043.lt (nTurn hat1058 (nKeep same))
         have B1063 := B1043.eff E1054 (fun h => nm1044 (List.mem_append_left _ (h)))
         have hM1065 : Mok (ob (.slice a1056 ((out ++ [x144]).length) cap1057) ++ ([b112] ++ [])) w1052 := hM1050.step E1054 (nTurn (fun b hb => .inr ((fun b hb => (O1053.lt b hb).2) b hb)) (nKeep same))
         refine L.runU [4] [] [(4, .slice a1056 ((out ++ [x144]).length) cap1057)] (by kernel_rfl) (by kernel_rfl) ?_
         refine L.done ?_
         show S _ _ _ c88_n43 _ _ _ _
         refine S.reg (ops := o88_n43) (js := [0, 1]) (by kernel_rfl) (by kernel_rfl) ?_
         refine L.runU [0] [1] [(62, .int .i64 (IntKind.i64.wrap (((k : Nat) : Int) + 1)))] (by kernel_rfl) (by kernel_rfl) ?_
         refine X.re64 (G := fun σ => L _ _ _ _ _ _ σ _ _) (d := 62) (((k : Nat) : Int) + 1) (((k + 1 : Nat) : Int)) (by kernel_rfl) (by omega) ?_
         refine L.runU [1] [] [(11, .int .i64 (((k + 1 : Nat) : Int)))] (by kernel_rfl) (by kernel_rfl) ?_
         refine L.done ?_
         show ∃ m', m' < _ ∧ _
         refine ⟨l.length - (k + 1), ?_, ⟨k + 1, a1056, cap1057, out ++ [x144], rfl, (by omega), (by have hx := hx145; first | exact valT_snoc hout hx (by grind [escB, signB, hexD, getD_of]) | (rw [List.append_assoc]; exact valT_snoc hout hx (by grind [escB, signB, hexD, getD_of]))), (by simp only [List.length_append, List.length_cons, List.length_nil]; omega), Q1060, nm1061, B1062, O1053, hM1065, hE1059, (by omega), rfl, _, Holds.eq (l := [(0, sv l), (2, sv []), (3, .map (some b101)), (4, .slice a1056 ((out ++ [x144]).length) cap1057), (9, .slice (some ⟨b112, 0, none⟩) l.length cap113), (10, .int .i64 (((l.length : Nat) : Int))), (11, .int .i64 (((k + 1 : Nat) : Int)))]) ⟨by kernel_rfl, by kernel_rfl, by kernel_rfl, by kernel_rfl, by kernel_rfl, by kernel_rfl, by kernel_rfl, trivial⟩⟩⟩
         omega
       ·refine L.runU [6, 7, 8, 9] [] [(52, undef), (53, undef), (54, .bool false), (32, .bool false)] (by kernel_rfl) (by kernel_rfl) ?_
        refine L.done ?_
        show S _ _ _ c88_n39 _ _ _ _
        refine S.condF (o := (Operand.tmp 32)) (x := c88_n40) (y := c88_n41) (by kernel_rfl) (by kernel_rfl) ?_
        refine S.skip (by kernel_rfl) ?_
        show S _ _ _ c88_n42 _ _ _ _
        refine S.reg (ops := o88_n42) (js := [0, 1, 2, 3, 4]) (by kernel_rfl) (by kernel_rfl) ?_
        refine L.runU [0, 1] [2, 3, 4] [(58, .slice a129 out.length cap130), (59, .int .u8 (x144.toNat : Int))] (by kernel_rfl) (by kernel_rfl) ?_
        refine L.newRow (fun b => .slice (some ⟨b, 0, none⟩) 1 1) [.int .u8 (x144.toNat : Int)] 5 (by kernel_rfl : lookAt _ _ _ _ = some ((Op.buildSlice 128 1 #[(0, (Operand.tmp 59))]), some 60)) (by intro c e; cases e) (fun w => by kernel_rfl) ?_
        intro b1066 w1067 hs1068 hz1069 E1070 B1071
        have nm1072 := not_mem_of_ge (b := b1066) hM139 (by omega)
        have hE1073 := hE140.and0 E1070
        have := E1070.size
        have Q1074 := F135.step same E1070 (by simp) no0
        have B1075 := F137.eff0 E1070
        have O1076 := O138.step same E1070 no0
        have A1077 := A143.step same E1070 no0
        have hM1078 := hM139.eff E1070
        refine L.append (K := Kd.byte) (e := 5) (base := w.heap.size) (bytes := 1) (M := [b112] ++ []) (v := .slice a129 out.length cap130) (xs := out) (ys := [x144]) (a := some ⟨b1066, 0, none⟩) (cap := 1) (by kernel_rfl : lookAt _ _ _ _ = some ((Op.call { callee := (Callee.builtin Builtin.append), args := #[(Operand.tmp 58), (Operand.tmp 60)], argTypes := #[128, 128] }), some 61)) (by kernel_rfl) (by kernel_rfl) (by kernel_rfl) (by kernel_rfl) O1076 (Sl.one (K := Kd.byte) (x := x144) B1071 nm1072 rfl) (hM1078.sub (sDrop sSame)) (by (simp only [List.length_cons, List.length_nil, List.length_append, List.length_take, List.length_drop, List.length_map, List.length_replicate] <;> omega)) (by omega) hE1073.size ?_
        intro v1079 w1080 O1081 E1082 hat1083
        obtain ⟨a1084, cap1085, rfl⟩ := O1081.slice
        have hat1086 := hatN hat1083
        have hE1087 := hE1073.andMem E1082 (memOwn O1076 (Nat.le_refl _))
        have := E1082.size
        have nm1089 := ninN nm136 Q1074.lt (nTurn hat1086 (nKeep same))
        have Q1088 := Q1074.step (nTurn hat1086 (nKeep same)) E1082 (fun h => nm136 (List.mem_append_left _ (h))) (fun _ h => List.mem_append_left _ (h))
        have B1090 := B1075.eff E1082 (O1076.apart (List.mem_append_left _ (List.mem_singleton.2 rfl)))
        have nm1092 := ninN nm1072 B1071.lt (nTurn hat1086 (nKeep same))
        have B1091 := B1071.eff E1082 (fun h => nm1072 (List.mem_append_left _ (h)))
        have hM1093 : Mok (ob (.slice a1084 ((out ++ [x144]).length) cap1085) ++ ([b112] ++ [])) w1080 := hM1078.step E1082 (nTurn (fun b hb => .inr ((fun b hb => (O1081.lt b hb).2) b hb)) (nKeep same))
        refine L.runU [4] [] [(4, .slice a1084 ((out ++ [x144]).length) cap1085)] (by kernel_rfl) (by kernel_rfl) ?_
        refine L.done ?_
        show S _ _ _ c88_n43 _ _ _ _
        refine S.reg (ops := o88_n43) (js := [0, 1]) (by kernel_rfl) (by kernel_rfl) ?_
        refine L.runU [0] [1] [(62, .int .i64 (IntKind.i64.wrap (((k : Nat) : Int) + 1)))] (by kernel_rfl) (by kernel_rfl) ?_
        refine X.re64 (G := fun σ => L _ _ _ _ _ _ σ _ _) (d := 62) (((k : Nat) : Int) + 1) (((k + 1 : Nat) : Int)) (by kernel_rfl) (by omega) ?_
        refine L.runU [1] [] [(11, .int .i64 (((k + 1 : Nat) : Int)))] (by kernel_rfl) (by kernel_rfl) ?_
        refine L.done ?_
        show ∃ m', m' < _ ∧ _
        refine ⟨l.length - (k + 1), ?_, ⟨k + 1, a1084, cap1085, out ++ [x144], rfl, (by omega), (by have hx := hx145; first | exact valT_snoc hout hx (by grind [escB, signB, hexD, getD_of]) | (rw [List.append_assoc]; exact valT_snoc hout hx (by grind [escB, signB, hexD, getD_of]))), (by simp only [List.length_append, List.length_cons, List.length_nil]; omega), Q1088, nm1089, B1090, O1081, hM1093, hE1087, (by omega), rfl, _, Holds.eq (l := [(0, sv l), (2, sv []), (3, .map (some b101)), (4, .slice a1084 ((out ++ [x144]).length) cap1085), (9, .slice (some ⟨b112, 0, none⟩) l.length cap113), (10, .int .i64 (((l.length : Nat) : Int))), (11, .int .i64 (((k + 1 : Nat) : Int)))]) ⟨by kernel_rfl, by kernel_rfl, by kernel_rfl, by kernel_rfl, by kernel_rfl, by kernel_rfl, by kernel_rfl, trivial⟩⟩⟩
        omega
 ·refine S.exit (id := 0) (by kernel_rfl) ?_
  show S _ _ _ c88_n44 _ _ _ _
  refine S.seq (x := c88_n45) (y := c88_n46) (by kernel_rfl) ?_
  refine S.reg (ops := o88_n45) (js := [0, 1, 2]) (by kernel_rfl) (by kernel_rfl) ?_
  refine L.runU [0] [1, 2] [(63, .slice a129 out.length cap130)] (by kernel_rfl) (by kernel_rfl) ?_
  refine L.val (sv out) (by kernel_rfl : lookAt _ _ _ _ = some ((Op.convert 128 9 (Operand.tmp 63)), some 64)) (by intro c e; cases e) (rx_bytesStrOwn (e := 5) (a := a129) (n := out.length) (cap := cap130) (l := out) (by kernel_rfl) (by kernel_rfl) (by kernel_rfl) (by kernel_rfl) (by omega) O138) ?_
  refine L.runU [2] [] [(2, sv out)] (by kernel_rfl) (by kernel_rfl) ?_
  refine L.done ?_
  show S _ _ _ c88_n46 _ _ _ _
  refine S.ret (by kernel_rfl) ?_
  show Leave _ _ _ _ _ _ _ _
  refine Leave.ret1 (x := .tmp 2) (sv out) (by kernel_rfl) (.ofT (by kernel_rfl)) ?_
  refine ⟨_, rfl, hE140, ?_⟩
  exact congrArg sv (by rw [hout]; congr 1; omega)
end Go.Proofs.YtjleeadiadpiaaaGreatDoor
namespace Go.Proofs.YtjleeadiadpiaaaGreatDoor
open Go Go.Fx Go.RowKit
def oneT (j : Nat) (x : Rd) : Str := (if j = 0 then [] else [44]) ++ (x.ty ++ [61] ++ valT x.val x.val.length)
def dnT (l : List Rd) (k : Nat) : Str := ((List.range k).map fun j => oneT j (l.getD j ⟨[], []⟩)).flatten
theorem dnT_succ {l : List Rd} {k : Nat} {x : Rd} (hx : l[k]? = some x) : dnT l (k + 1) = dnT l k ++ oneT k x := by
 rw [dnT, dnT, List.range_succ, List.map_append, List.flatten_append]
 simp only [List.map_cons, List.map_nil, List.flatten_cons, List.flatten_nil, List.append_nil, getD_of hx]
theorem dnT_snoc0 {l : List Rd} {k : Nat} {x : Rd} (hx : l[k]? = some x) (h : k = 0) : dnT l k ++ (x.ty ++ [61] ++ valT x.val x.val.length) = dnT l (k + 1) := by
 rw [dnT_succ hx, oneT, if_pos h]; rfl
theorem dnT_snoc1 {l : List Rd} {k : Nat} {x : Rd} (hx : l[k]? = some x) (h : k ≠ 0) : dnT l k ++ [44] ++ (x.ty ++ [61] ++ valT x.val x.val.length) = dnT l (k + 1) := by
 rw [dnT_succ hx, oneT, if_neg h, List.append_assoc]
theorem escB_len (n j : Nat) (x : UInt8) : (escB n j x).length ≤ 3 := by
 unfold escB; split <;> (try split) <;> simp
theorem valT_len (l : Str) (k : Nat) : (valT l k).length ≤ 3 * k := by
 induction k with
 | zero => simp [valT]
 | succ k ih =>
  have : valT l (k + 1) = valT l k ++ escB l.length k (l.getD k 0) := by
   rw [valT, valT, List.range_succ, List.map_append, List.flatten_append]
   simp only [List.map_cons, List.map_nil, List.flatten_cons, List.flatten_nil, List.append_nil]
  rw [this, List.length_append]
  have := escB_len l.length k (l.getD k 0)
  omega
theorem dn_l16 {l : List Rd} (h : dnF l = true) : l.length ≤ 1000 := by
 simp only [dnF, Bool.and_eq_true, decide_eq_true_eq] at h; omega
theorem dn_rd {l : List Rd} (h : dnF l = true) {k : Nat} {x : Rd} (hx : l[k]? = some x) : x.ty.length ≤ 64 ∧ x.val.length ≤ 200 := by
 simp only [dnF, Bool.and_eq_true, decide_eq_true_eq, List.all_eq_true] at h
 have := h.2 x (List.mem_of_getElem? hx)
 simp only [rdB, nameF, lenIn, Bool.and_eq_true, decide_eq_true_eq] at this
 omega
noncomputable def c57 : Code := bodyOf Tryz.f57
noncomputable def c57_0 : Code := kid 0 c57
noncomputable def o57_0 : Array Oper := regOps c57_0
noncomputable def c57_1 : Code := kid 1 c57
noncomputable def c57_1_0 : Code := kid 0 c57_1
noncomputable def c57_1_0_0 : Code := kid 0 c57_1_0
noncomputable def o57_1_0_0 : Array Oper := regOps c57_1_0_0
noncomputable def c57_1_0_1 : Code := kid 1 c57_1_0
noncomputable def c57_n6 : Code := kid 0 c57_1_0_1
noncomputable def c57_n7 : Code := kid 0 c57_n6
noncomputable def o57_n7 : Array Oper := regOps c57_n7
noncomputable def c57_n8 : Code := kid 1 c57_n6
noncomputable def c57_n9 : Code := kid 1 c57_1_0_1
noncomputable def c57_1_1 : Code := kid 1 c57_1
noncomputable def c57_1_1_0 : Code := kid 0 c57_1_1
noncomputable def o57_1_1_0 : Array Oper := regOps c57_1_1_0
noncomputable def c57_1_1_1 : Code := kid 1 c57_1_1
noncomputable def c57_n13 : Code := kid 0 c57_1_1_1
noncomputable def c57_n14 : Code := kid 0 c57_n13
noncomputable def o57_n14 : Array Oper := regOps c57_n14
noncomputable def c57_n15 : Code := kid 1 c57_n13
noncomputable def c57_n16 : Code := kid 0 c57_n15
noncomputable def c57_n17 : Code := kid 0 c57_n16
noncomputable def c57_n18 : Code := kid 0 c57_n17
noncomputable def o57_n18 : Array Oper := regOps c57_n18
noncomputable def c57_n19 : Code := kid 1 c57_n17
noncomputable def c57_n20 : Code := kid 0 c57_n19
noncomputable def c57_n21 : Code := kid 0 c57_n20
noncomputable def c57_n22 : Code := kid 1 c57_n20
noncomputable def c57_n23 : Code := kid 1 c57_n19
noncomputable def c57_n24 : Code := kid 0 c57_n23
noncomputable def c57_n25 : Code := kid 0 c57_n24
noncomputable def c57_n26 : Code := kid 0 c57_n25
noncomputable def o57_n26 : Array Oper := regOps c57_n26
noncomputable def c57_n27 : Code := kid 1 c57_n25
noncomputable def c57_n28 : Code := kid 0 c57_n27
noncomputable def c57_n29 : Code := kid 0 c57_n28
noncomputable def o57_n29 : Array Oper := regOps c57_n29
noncomputable def c57_n30 : Code := kid 1 c57_n28
noncomputable def c57_n31 : Code := kid 0 c57_n30
noncomputable def o57_n31 : Array Oper := regOps c57_n31
noncomputable def c57_n32 : Code := kid 1 c57_n30
noncomputable def c57_n33 : Code := kid 1 c57_n27
noncomputable def o57_n33 : Array Oper := regOps c57_n33
noncomputable def c57_n34 : Code := kid 1 c57_n23
noncomputable def o57_n34 : Array Oper := regOps c57_n34
noncomputable def c57_n35 : Code := kid 1 c57_1_1_1
noncomputable def c57_n36 : Code := kid 0 c57_n35
noncomputable def o57_n36 : Array Oper := regOps c57_n36
noncomputable def c57_n37 : Code := kid 1 c57_n35
set_option maxHeartbeats 400000 in
theorem dntext_ok (a : Option Addr) (cap : Nat) (l : List Rd) (w : World) (h : Sl kRd [] w a l) : Calls Tryz.prog 57 #[.slice a l.length cap] w (RetW [] w fun v _ => v = if dnF l = true then .tuple #[sv (dnT l l.length), .int .i64 0] else .tuple #[sv [], .int .i64 2]) := by
 refine calls_of_S (n := 32) (c := c57) Tryz.func57 (by kernel_rfl) (by kernel_rfl) (Nat.le_of_ble_eq_true (by kernel_rfl)) ?_
 have hl := h.1
 have hE0 : Eff [] w w := Eff.refl _ _
 refine S.seq (x := c57_0) (y := c57_1) (by kernel_rfl) ?_
 refine S.reg (ops := o57_0) (js := [0, 1]) (by kernel_rfl) (by kernel_rfl) ?_
 refine L.runU [0, 1] [] [(2, sv []), (3, .int .i64 0)] (by kernel_rfl) (by kernel_rfl) ?_
 refine L.done ?_
 show S _ _ _ c57_1 _ _ _ _
 refine S.seq (x := c57_1_0) (y := c57_1_1) (by kernel_rfl) ?_
 refine S.seq (x := c57_1_0_0) (y := c57_1_0_1) (by kernel_rfl) ?_
 refine S.reg (ops := o57_1_0_0) (js := [0, 1, 2]) (by kernel_rfl) (by kernel_rfl) ?_
 refine L.runU [0] [1, 2] [(7, .slice a l.length cap)] (by kernel_rfl) (by kernel_rfl) ?_
 refine L.call (f := 51) (by kernel_rfl : lookAt _ _ _ _ = some ((Op.call { callee := (Callee.value (Operand.func 51)), args := #[(Operand.tmp 7)], argTypes := #[29] }), some 8)) e51 (by kernel_rfl) (dchk_ok a cap l _ h.wk0) ?_
 rintro _ w102 E103 rfl
 have hE105 := hE0.and0 E103
 have := E103.size
 have R106 := h.step same E103 no0
 have hM107 := (Mok.nil _).eff E103
 refine L.runU [2] [] [(9, .bool (!decide ((if dnF l = true then 0 else 2 : Int) = 0)))] (by kernel_rfl) (by kernel_rfl) ?_
 refine L.done ?_
 show S _ _ _ c57_1_0_1 _ _ _ _
 refine S.condN ((if dnF l = true then 0 else 2 : Int) = 0) (o := (Operand.tmp 9)) (x := c57_n6) (y := c57_n9) (by kernel_rfl) (by kernel_rfl) (fun h108 => ?_) (fun h108 => ?_)
 ·refine S.seq (x := c57_n7) (y := c57_n8) (by kernel_rfl) ?_
  refine S.reg (ops := o57_n7) (js := [0, 1]) (by kernel_rfl) (by kernel_rfl) ?_
  refine L.runU [0, 1] [] [(2, sv []), (3, .int .i64 2)] (by kernel_rfl) (by kernel_rfl) ?_
  refine L.done ?_
  show S _ _ _ c57_n8 _ _ _ _
  refine S.ret (by kernel_rfl) ?_
  show Leave _ _ _ _ _ _ _ _
  refine Leave.ret2 (x := .tmp 2) (y := .tmp 3) (sv []) (.int .i64 2) (by kernel_rfl) (.ofT (by kernel_rfl)) (.ofT (by kernel_rfl)) ?_
  refine ⟨_, rfl, hE105, ?_⟩
  rw [if_neg (by intro h0; simp_all)]
 ·refine S.skip (by kernel_rfl) ?_
  show S _ _ _ c57_1_1 _ _ _ _
  refine S.seq (x := c57_1_1_0) (y := c57_1_1_1) (by kernel_rfl) ?_
  refine S.reg (ops := o57_1_1_0) (js := [0]) (by kernel_rfl) (by kernel_rfl) ?_
  refine L.runU [0] [] [(4, sv [])] (by kernel_rfl) (by kernel_rfl) ?_
  refine L.done ?_
  show S _ _ _ c57_1_1_1 _ _ _ _
  refine S.seq (x := c57_n13) (y := c57_n35) (by kernel_rfl) ?_
  refine S.seq (x := c57_n14) (y := c57_n15) (by kernel_rfl) ?_
  refine S.reg (ops := o57_n14) (js := [0, 1, 2]) (by kernel_rfl) (by kernel_rfl) ?_
  refine L.runU [0, 1, 2] [] [(10, .slice a l.length cap), (11, .int .i64 (((l.length : Nat) : Int))), (12, .int .i64 0)] (by kernel_rfl) (by kernel_rfl) ?_
  refine L.done ?_
  show S _ _ _ c57_n15 _ _ _ _
  refine S.block (id := 0) (x := c57_n16) (by kernel_rfl) ?_
  refine S.loop (x := c57_n17) (fun m σ' ds' w' => ∃ (k : Nat) (s : Str), m = l.length - k ∧ (k ≤ l.length) ∧ (s = dnT l k) ∧ (s.length ≤ k * 4000) ∧ (dnF l = true) ∧ (l.length ≤ 1000) ∧ Sl kRd [] w' a l ∧ Mok ([]) w' ∧ Eff [] w w' ∧ w102.heap.size ≤ w'.heap.size ∧ ds' = [] ∧ ∃ u, σ' = slots u [(2, sv []), (3, .int .i64 0), (4, sv s), (10, .slice a l.length cap), (11, .int .i64 (((l.length : Nat) : Int))), (12, .int .i64 (((k : Nat) : Int)))]) (l.length - 0) (by kernel_rfl) ⟨0, [], rfl, (by omega), (by rfl), (by exact Nat.zero_le _), (by cases h0 : dnF l <;> simp_all), (by exact dn_l16 (by cases h0 : dnF l <;> simp_all)), R106, hM107, hE105, (Nat.le_refl _), rfl, _, Holds.eq (l := [(2, sv []), (3, .int .i64 0), (4, sv []), (10, .slice a l.length cap), (11, .int .i64 (((l.length : Nat) : Int))), (12, .int .i64 0)]) ⟨by kernel_rfl, by kernel_rfl, by kernel_rfl, by kernel_rfl, by kernel_rfl, by kernel_rfl, trivial⟩⟩ ?_
  rintro m110 σ' ds' w109 ⟨k, s, hm112, hk, hs, hsl, hr, hl16, F113, hM114, hE115, hz116, rfl, u111, rfl⟩
  refine S.seq (x := c57_n18) (y := c57_n19) (by kernel_rfl) ?_
  refine S.reg (ops := o57_n18) (js := [0]) (by kernel_rfl) (by kernel_rfl) ?_
  refine L.runU [0] [] [(13, .bool (decide (((k : Nat) : Int) < ((l.length : Nat) : Int))))] (by kernel_rfl) (by kernel_rfl) ?_
  refine L.done ?_
  show S _ _ _ c57_n19 _ _ _ _
  refine S.seq (x := c57_n20) (y := c57_n23) (by kernel_rfl) ?_
  refine S.condP (((k : Nat) : Int) < ((l.length : Nat) : Int)) (o := (Operand.tmp 13)) (x := c57_n21) (y := c57_n22) (by kernel_rfl) (by kernel_rfl) (fun h117 => ?_) (fun h117 => ?_)
  ·refine S.skip (by kernel_rfl) ?_
   show S _ _ _ c57_n23 _ _ _ _
   refine S.seq (x := c57_n24) (y := c57_n34) (by kernel_rfl) ?_
   refine S.block (id := 1) (x := c57_n25) (by kernel_rfl) ?_
   refine S.seq (x := c57_n26) (y := c57_n27) (by kernel_rfl) ?_
   refine S.reg (ops := o57_n26) (js := [0, 1, 2, 3, 4, 5]) (by kernel_rfl) (by kernel_rfl) ?_
   refine L.runU [0] [1, 2, 3, 4, 5] [(14, .int .i64 (((k : Nat) : Int)))] (by kernel_rfl) (by kernel_rfl) ?_
   obtain ⟨x121, hx122⟩ : ∃ x, (l)[k]? = some x := ⟨_, List.getElem?_eq_getElem (by omega)⟩
   obtain ⟨p118, _, hp119, A120, ⟨_, _, rfl, ⟨rfl, hl123⟩, ⟨rfl, hl124⟩⟩⟩ := F113.open_ hx122
   refine L.val (.pointer (some (p118.add (k * 2)))) (by kernel_rfl : lookAt _ _ _ _ = some ((Op.indexAddr 29 (Operand.tmp 10) (Operand.tmp 12)), some 15)) (by intro c e; cases e) (rx_indexAddr (e := 88) (sz := 2) (a := a) (p := p118) (len := l.length) (cap := cap) (kk := .i64) (i := ((k : Nat) : Int)) k (k * 2) (by kernel_rfl) hp119 (by kernel_rfl) (by kernel_rfl) (by kernel_rfl) (by omega) (by omega) (by omega)) ?_
   refine L.val (.agg #[sv x121.ty, sv x121.val]) (by kernel_rfl : lookAt _ _ _ _ = some ((Op.load 88 (Operand.tmp 15)), some 16)) (by intro c e; cases e) (rx_load 0 (.agg #[sv x121.ty, sv x121.val]) (A120.1) (by kernel_rfl) (by kernel_rfl)) ?_
   refine L.alloc [sv [], sv []] (by kernel_rfl : lookAt _ _ _ _ = some ((Op.alloc 88), some 6)) (by kernel_rfl) ?_
   intro b125 w126 hs127 hz128 E129 B130
   have hE131 := hE115.and0 E129
   have := E129.size
   have R132 := F113.step (nNew (fresh1 hs127) same) E129 no0
   have A133 := A120.step (nNew (fresh1 hs127) same) E129 no0
   have hM134 : Mok ([b125] ++ []) w126 := hM114.step E129 (nNew (flt1 (b := b125) (by omega)) same)
   refine L.runU [4] [5] [(5, .int .i64 (((k : Nat) : Int)))] (by kernel_rfl) (by kernel_rfl) ?_
   refine L.store 0 [sv x121.ty, sv x121.val] [sv x121.ty, sv x121.val] (by kernel_rfl : lookAt _ _ _ _ = some ((Op.store 88 (Operand.tmp 6) (Operand.tmp 16)), none)) (by kernel_rfl) B130 (by kernel_rfl) (by kernel_rfl) (by kernel_rfl) (one_of_all (by kernel_rfl)) (by kernel_rfl) ?_
   intro w135 E136 hz137 B138
   have hE139 := hE131.and1 E136 (by omega)
   have := E136.size
   have R140 := R132.step same E136 (in1 (List.mem_append_left _ (List.mem_singleton.2 rfl)))
   have A141 := A133.step same E136 (in1 (List.mem_append_left _ (List.mem_singleton.2 rfl)))
   have hM142 := hM134.eff E136
   refine L.done ?_
   show S _ _ _ c57_n27 _ _ _ _
   refine S.seq (x := c57_n28) (y := c57_n33) (by kernel_rfl) ?_
   refine S.seq (x := c57_n29) (y := c57_n30) (by kernel_rfl) ?_
   refine S.reg (ops := o57_n29) (js := [0, 1]) (by kernel_rfl) (by kernel_rfl) ?_
   refine L.runU [0, 1] [] [(17, .int .i64 (((k : Nat) : Int))), (18, .bool (decide (0 < ((k : Nat) : Int))))] (by kernel_rfl) (by kernel_rfl) ?_
   refine L.done ?_
   show S _ _ _ c57_n30 _ _ _ _
   refine S.condP (0 < ((k : Nat) : Int)) (o := (Operand.tmp 18)) (x := c57_n31) (y := c57_n32) (by kernel_rfl) (by kernel_rfl) (fun h143 => ?_) (fun h143 => ?_)
   ·refine S.reg (ops := o57_n31) (js := [0, 1, 2]) (by kernel_rfl) (by kernel_rfl) ?_
    refine L.runU [0] [1, 2] [(19, sv s)] (by kernel_rfl) (by kernel_rfl) ?_
    refine L.val (sv (s ++ [44])) (by kernel_rfl : lookAt _ _ _ _ = some ((Op.binOp BinOp.add 9 (Operand.tmp 19) (Operand.const (Value.string { data := #[44] })) 9), some 20)) (by intro c e; cases e) (rx_strAdd s [44] (by kernel_rfl) (by kernel_rfl) (by obtain ⟨hq1, hq2⟩ := dn_rd hr hx122; have := valT_len x121.val x121.val.length; simp only [List.length_append, List.length_cons, List.length_nil]; omega)) ?_
    refine L.runU [2] [] [(4, sv (s ++ [44]))] (by kernel_rfl) (by kernel_rfl) ?_
    refine L.done ?_
    show S _ _ _ c57_n33 _ _ _ _
    refine S.draw (ops := o57_n33) (Eff ([])) 10 #[false, false, false, false, false, false, false, false, false, false] (by kernel_rfl) (by kernel_rfl) (by kernel_rfl) (by kernel_rfl) ?_
    intro w144 E145 hw146
    have hE148 := hE139.and0 E145
    have := E145.size
    have R149 := R140.step same E145 no0
    have A150 := A141.step same E145 no0
    have B151 := B138.eff0 E145
    have hM152 := hM142.eff E145
    have hS147 := Eff.refl ([]) w144
    refine D.take 0 (sv (s ++ [44])) (some 21) #[true, false, false, false, false, false, false, false, false, false] (by kernel_rfl) (by kernel_rfl) (by kernel_rfl) (fun _ _ _ _ h => LeaveP.put h (by kernel_rfl)) (.pure (n := 32) (by kernel_rfl)) hS147 ?_
    refine D.take 1 (.pointer (some ⟨b125, 0, none⟩)) (some 22) #[true, true, false, false, false, false, false, false, false, false] (by kernel_rfl) (by kernel_rfl) (by kernel_rfl) (fun _ _ _ _ h => LeaveP.put h (by kernel_rfl)) (.pure (n := 32) (by kernel_rfl)) hS147 ?_
    refine D.take 2 (sv x121.ty) (some 23) #[true, true, true, false, false, false, false, false, false, false] (by kernel_rfl) (by kernel_rfl) (by kernel_rfl) (fun _ _ _ _ h => LeaveP.put h (by kernel_rfl)) (.val (n := 32) (by kernel_rfl : lookAt _ _ _ _ = some ((Op.load 9 (Operand.tmp 22)), some 23)) (by intro c e; cases e) (fun _ h => rx_load 0 (sv x121.ty) ((B151.eff0 h).cells) (by kernel_rfl) (by kernel_rfl))) hS147 ?_
    refine D.take 3 (sv (x121.ty ++ [61])) (some 24) #[true, true, true, true, false, false, false, false, false, false] (by kernel_rfl) (by kernel_rfl) (by kernel_rfl) (fun _ _ _ _ h => LeaveP.put h (by kernel_rfl)) (.val (n := 32) (by kernel_rfl : lookAt _ _ _ _ = some ((Op.binOp BinOp.add 9 (Operand.tmp 23) (Operand.const (Value.string { data := #[61] })) 9), some 24)) (by intro c e; cases e) (fun _ h => rx_strAdd x121.ty [61] (by kernel_rfl) (by kernel_rfl) (by obtain ⟨hq1, hq2⟩ := dn_rd hr hx122; have := valT_len x121.val x121.val.length; simp only [List.length_append, List.length_cons, List.length_nil]; omega))) hS147 ?_
    refine D.take 4 (.pointer (some ⟨b125, 1, none⟩)) (some 25) #[true, true, true, true, true, false, false, false, false, false] (by kernel_rfl) (by kernel_rfl) (by kernel_rfl) (fun _ _ _ _ h => LeaveP.put h (by kernel_rfl)) (.pure (n := 32) (by kernel_rfl)) hS147 ?_
    refine D.take 5 (sv x121.val) (some 26) #[true, true, true, true, true, true, false, false, false, false] (by kernel_rfl) (by kernel_rfl) (by kernel_rfl) (fun _ _ _ _ h => LeaveP.put h (by kernel_rfl)) (.val (n := 32) (by kernel_rfl : lookAt _ _ _ _ = some ((Op.load 9 (Operand.tmp 25)), some 26)) (by intro c e; cases e) (fun _ h => rx_load 1 (sv x121.val) ((B151.eff0 h).cells) (by kernel_rfl) (by kernel_rfl))) hS147 ?_
    refine D.all [6] (by kernel_rfl) (by kernel_rfl) ⟨?_, trivial⟩
    refine L.call (f := 88) (by kernel_rfl : lookAt _ _ _ _ = some ((Op.call { callee := (Callee.value (Operand.func 88)), args := #[(Operand.tmp 26)], argTypes := #[9] }), some 27)) e88 (by kernel_rfl) (dnval_ok x121.val _ (by obtain ⟨hq1, hq2⟩ := dn_rd hr hx122; omega)) ?_
    rintro _ w154 E155 rfl
    have hE157 := hE148.and0 E155
    have := E155.size
    have hS158 := hS147.and0 E155
    have R159 := R149.step same E155 no0
    have A160 := A150.step same E155 no0
    have B161 := B151.eff0 E155
    have hM162 := hM152.eff E155
    refine ⟨hS158, ?_⟩
    refine D.take 7 (sv ((x121.ty ++ [61]) ++ (valT x121.val x121.val.length))) (some 28) #[true, true, true, true, true, true, true, true, false, false] (by kernel_rfl) (by kernel_rfl) (by kernel_rfl) (fun _ _ _ _ h => LeaveP.put h (by kernel_rfl)) (.val (n := 32) (by kernel_rfl : lookAt _ _ _ _ = some ((Op.binOp BinOp.add 9 (Operand.tmp 24) (Operand.tmp 27) 9), some 28)) (by intro c e; cases e) (fun _ h => rx_strAdd (x121.ty ++ [61]) (valT x121.val x121.val.length) (by kernel_rfl) (by kernel_rfl) (by obtain ⟨hq1, hq2⟩ := dn_rd hr hx122; have := valT_len x121.val x121.val.length; simp only [List.length_append, List.length_cons, List.length_nil]; omega))) hS158 ?_
    refine D.take 8 (sv ((s ++ [44]) ++ ((x121.ty ++ [61]) ++ (valT x121.val x121.val.length)))) (some 29) #[true, true, true, true, true, true, true, true, true, false] (by kernel_rfl) (by kernel_rfl) (by kernel_rfl) (fun _ _ _ _ h => LeaveP.put h (by kernel_rfl)) (.val (n := 32) (by kernel_rfl : lookAt _ _ _ _ = some ((Op.binOp BinOp.add 9 (Operand.tmp 21) (Operand.tmp 28) 9), some 29)) (by intro c e; cases e) (fun _ h => rx_strAdd (s ++ [44]) ((x121.ty ++ [61]) ++ (valT x121.val x121.val.length)) (by kernel_rfl) (by kernel_rfl) (by obtain ⟨hq1, hq2⟩ := dn_rd hr hx122; have := valT_len x121.val x121.val.length; simp only [List.length_append, List.length_cons, List.length_nil]; omega))) hS158 ?_
    refine D.take 9 (sv ((s ++ [44]) ++ ((x121.ty ++ [61]) ++ (valT x121.val x121.val.length)))) (some 4) #[true, true, true, true, true, true, true, true, true, true] (by kernel_rfl) (by kernel_rfl) (by kernel_rfl) (fun _ _ _ _ h => LeaveP.put h (by kernel_rfl)) (.pure (n := 32) (by kernel_rfl)) hS158 ?_
    refine D.done _ (by kernel_rfl) ?_
    show S _ _ _ c57_n34 _ _ _ _
    refine S.reg (ops := o57_n34) (js := [0, 1]) (by kernel_rfl) (by kernel_rfl) ?_
    refine L.runU [0] [1] [(30, .int .i64 (IntKind.i64.wrap (((k : Nat) : Int) + 1)))] (by kernel_rfl) (by kernel_rfl) ?_
    refine X.re64 (G := fun σ => L _ _ _ _ _ _ σ _ _) (d := 30) (((k : Nat) : Int) + 1) (((k + 1 : Nat) : Int)) (by kernel_rfl) (by omega) ?_
    refine L.runU [1] [] [(12, .int .i64 (((k + 1 : Nat) : Int)))] (by kernel_rfl) (by kernel_rfl) ?_
    refine L.done ?_
    show ∃ m', m' < _ ∧ _
    have hsub163 : ∀ b, b ∈ [] → b ∈ [b125] ++ [] := (sDrop sSame)
    have hM164 : Mok ([]) w154 := hM162.sub hsub163
    have F165 := R159.sub hsub163
    have F166 := A160.sub hsub163
    refine ⟨l.length - (k + 1), ?_, ⟨k + 1, (s ++ [44]) ++ ((x121.ty ++ [61]) ++ (valT x121.val x121.val.length)), rfl, (by omega), (by rw [hs]; first | exact dnT_snoc0 hx122 (by omega) | exact dnT_snoc1 hx122 (by omega)), (by obtain ⟨hq1, hq2⟩ := dn_rd hr hx122; have := valT_len x121.val x121.val.length; simp only [List.length_append, List.length_cons, List.length_nil]; omega), (by omega), (by omega), F165, hM164, hE157, (by omega), rfl, _, Holds.eq (l := [(2, sv []), (3, .int .i64 0), (4, sv ((s ++ [44]) ++ ((x121.ty ++ [61]) ++ (valT x121.val x121.val.length)))), (10, .slice a l.length cap), (11, .int .i64 (((l.length : Nat) : Int))), (12, .int .i64 (((k + 1 : Nat) : Int)))]) ⟨by kernel_rfl, by kernel_rfl, by kernel_rfl, by kernel_rfl, by kernel_rfl, by kernel_rfl, trivial⟩⟩⟩
    omega
   ·refine S.skip (by kernel_rfl) ?_
    show S _ _ _ c57_n33 _ _ _ _
    refine S.draw (ops := o57_n33) (Eff ([])) 10 #[false, false, false, false, false, false, false, false, false, false] (by kernel_rfl) (by kernel_rfl) (by kernel_rfl) (by kernel_rfl) ?_
    intro w167 E168 hw169
    have hE171 := hE139.and0 E168
    have := E168.size
    have R172 := R140.step same E168 no0
    have A173 := A141.step same E168 no0
    have B174 := B138.eff0 E168
    have hM175 := hM142.eff E168
    have hS170 := Eff.refl ([]) w167
    refine D.take 0 (sv s) (some 21) #[true, false, false, false, false, false, false, false, false, false] (by kernel_rfl) (by kernel_rfl) (by kernel_rfl) (fun _ _ _ _ h => LeaveP.put h (by kernel_rfl)) (.pure (n := 32) (by kernel_rfl)) hS170 ?_
    refine D.take 1 (.pointer (some ⟨b125, 0, none⟩)) (some 22) #[true, true, false, false, false, false, false, false, false, false] (by kernel_rfl) (by kernel_rfl) (by kernel_rfl) (fun _ _ _ _ h => LeaveP.put h (by kernel_rfl)) (.pure (n := 32) (by kernel_rfl)) hS170 ?_
    refine D.take 2 (sv x121.ty) (some 23) #[true, true, true, false, false, false, false, false, false, false] (by kernel_rfl) (by kernel_rfl) (by kernel_rfl) (fun _ _ _ _ h => LeaveP.put h (by kernel_rfl)) (.val (n := 32) (by kernel_rfl : lookAt _ _ _ _ = some ((Op.load 9 (Operand.tmp 22)), some 23)) (by intro c e; cases e) (fun _ h => rx_load 0 (sv x121.ty) ((B174.eff0 h).cells) (by kernel_rfl) (by kernel_rfl))) hS170 ?_
    refine D.take 3 (sv (x121.ty ++ [61])) (some 24) #[true, true, true, true, false, false, false, false, false, false] (by kernel_rfl) (by kernel_rfl) (by kernel_rfl) (fun _ _ _ _ h => LeaveP.put h (by kernel_rfl)) (.val (n := 32) (by kernel_rfl : lookAt _ _ _ _ = some ((Op.binOp BinOp.add 9 (Operand.tmp 23) (Operand.const (Value.string { data := #[61] })) 9), some 24)) (by intro c e; cases e) (fun _ h => rx_strAdd x121.ty [61] (by kernel_rfl) (by kernel_rfl) (by obtain ⟨hq1, hq2⟩ := dn_rd hr hx122; have := valT_len x121.val x121.val.length; simp only [List.length_append, List.length_cons, List.length_nil]; omega))) hS170 ?_
    refine D.take 4 (.pointer (some ⟨b125, 1, none⟩)) (some 25) #[true, true, true, true, true, false, false, false, false, false] (by kernel_rfl) (by kernel_rfl) (by kernel_rfl) (fun _ _ _ _ h => LeaveP.put h (by kernel_rfl)) (.pure (n := 32) (by kernel_rfl)) hS170 ?_
    refine D.take 5 (sv x121.val) (some 26) #[true, true, true, true, true, true, false, false, false, false] (by kernel_rfl) (by kernel_rfl) (by kernel_rfl) (fun _ _ _ _ h => LeaveP.put h (by kernel_rfl)) (.val (n := 32) (by kernel_rfl : lookAt _ _ _ _ = some ((Op.load 9 (Operand.tmp 25)), some 26)) (by intro c e; cases e) (fun _ h => rx_load 1 (sv x121.val) ((B174.eff0 h).cells) (by kernel_rfl) (by kernel_rfl))) hS170 ?_
    refine D.all [6] (by kernel_rfl) (by kernel_rfl) ⟨?_, trivial⟩
    refine L.call (f := 88) (by kernel_rfl : lookAt _ _ _ _ = some ((Op.call { callee := (Callee.value (Operand.func 88)), args := #[(Operand.tmp 26)], argTypes := #[9] }), some 27)) e88 (by kernel_rfl) (dnval_ok x121.val _ (by obtain ⟨hq1, hq2⟩ := dn_rd hr hx122; omega)) ?_
    rintro _ w177 E178 rfl
    have hE180 := hE171.and0 E178
    have := E178.size
    have hS181 := hS170.and0 E178
    have R182 := R172.step same E178 no0
    have A183 := A173.step same E178 no0
    have B184 := B174.eff0 E178
    have hM185 := hM175.eff E178
    refine ⟨hS181, ?_⟩
    refine D.take 7 (sv ((x121.ty ++ [61]) ++ (valT x121.val x121.val.length))) (some 28) #[true, true, true, true, true, true, true, true, false, false] (by kernel_rfl) (by kernel_rfl) (by kernel_rfl) (fun _ _ _ _ h => LeaveP.put h (by kernel_rfl)) (.val (n := 32) (by kernel_rfl : lookAt _ _ _ _ = some ((Op.binOp BinOp.add 9 (Operand.tmp 24) (Operand.tmp 27) 9), some 28)) (by intro c e; cases e) (fun _ h => rx_strAdd (x121.ty ++ [61]) (valT x121.val x121.val.length) (by kernel_rfl) (by kernel_rfl) (by obtain ⟨hq1, hq2⟩ := dn_rd hr hx122; have := valT_len x121.val x121.val.length; simp only [List.length_append, List.length_cons, List.length_nil]; omega))) hS181 ?_
    refine D.take 8 (sv (s ++ ((x121.ty ++ [61]) ++ (valT x121.val x121.val.length)))) (some 29) #[true, true, true, true, true, true, true, true, true, false] (by kernel_rfl) (by kernel_rfl) (by kernel_rfl) (fun _ _ _ _ h => LeaveP.put h (by kernel_rfl)) (.val (n := 32) (by kernel_rfl : lookAt _ _ _ _ = some ((Op.binOp BinOp.add 9 (Operand.tmp 21) (Operand.tmp 28) 9), some 29)) (by intro c e; cases e) (fun _ h => rx_strAdd s ((x121.ty ++ [61]) ++ (valT x121.val x121.val.length)) (by kernel_rfl) (by kernel_rfl) (by obtain ⟨hq1, hq2⟩ := dn_rd hr hx122; have := valT_len x121.val x121.val.length; simp only [List.length_append, List.length_cons, List.length_nil]; omega))) hS181 ?_
    refine D.take 9 (sv (s ++ ((x121.ty ++ [61]) ++ (valT x121.val x121.val.length)))) (some 4) #[true, true, true, true, true, true, true, true, true, true] (by kernel_rfl) (by kernel_rfl) (by kernel_rfl) (fun _ _ _ _ h => LeaveP.put h (by kernel_rfl)) (.pure (n := 32) (by kernel_rfl)) hS181 ?_
    refine D.done _ (by kernel_rfl) ?_
    show S _ _ _ c57_n34 _ _ _ _
    refine S.reg (ops := o57_n34) (js := [0, 1]) (by kernel_rfl) (by kernel_rfl) ?_
    refine L.runU [0] [1] [(30, .int .i64 (IntKind.i64.wrap (((k : Nat) : Int) + 1)))] (by kernel_rfl) (by kernel_rfl) ?_
    refine X.re64 (G := fun σ => L _ _ _ _ _ _ σ _ _) (d := 30) (((k : Nat) : Int) + 1) (((k + 1 : Nat) : Int)) (by kernel_rfl) (by omega) ?_
    refine L.runU [1] [] [(12, .int .i64 (((k + 1 : Nat) : Int)))] (by kernel_rfl) (by kernel_rfl) ?_
    refine L.done ?_
    show ∃ m', m' < _ ∧ _
    have hsub186 : ∀ b, b ∈ [] → b ∈ [b125] ++ [] := (sDrop sSame)
    have hM187 : Mok ([]) w177 := hM185.sub hsub186
    have F188 := R182.sub hsub186
    have F189 := A183.sub hsub186
    refine ⟨l.length - (k + 1), ?_, ⟨k + 1, s ++ ((x121.ty ++ [61]) ++ (valT x121.val x121.val.length)), rfl, (by omega), (by rw [hs]; first | exact dnT_snoc0 hx122 (by omega) | exact dnT_snoc1 hx122 (by omega)), (by obtain ⟨hq1, hq2⟩ := dn_rd hr hx122; have := valT_len x121.val x121.val.length; simp only [List.length_append, List.length_cons, List.length_nil]; omega), (by omega), (by omega), F188, hM187, hE180, (by omega), rfl, _, Holds.eq (l := [(2, sv []), (3, .int .i64 0), (4, sv (s ++ ((x121.ty ++ [61]) ++ (valT x121.val x121.val.length)))), (10, .slice a l.length cap), (11, .int .i64 (((l.length : Nat) : Int))), (12, .int .i64 (((k + 1 : Nat) : Int)))]) ⟨by kernel_rfl, by kernel_rfl, by kernel_rfl, by kernel_rfl, by kernel_rfl, by kernel_rfl, trivial⟩⟩⟩
    omega
  ·refine S.exit (id := 0) (by kernel_rfl) ?_
   show S _ _ _ c57_n35 _ _ _ _
   refine S.seq (x := c57_n36) (y := c57_n37) (by kernel_rfl) ?_
   refine S.reg (ops := o57_n36) (js := [0, 1, 2]) (by kernel_rfl) (by kernel_rfl) ?_
   refine L.runU [0, 1, 2] [] [(31, sv s), (2, sv s), (3, .int .i64 0)] (by kernel_rfl) (by kernel_rfl) ?_
   refine L.done ?_
   show S _ _ _ c57_n37 _ _ _ _
   refine S.ret (by kernel_rfl) ?_
   show Leave _ _ _ _ _ _ _ _
   refine Leave.ret2 (x := .tmp 2) (y := .tmp 3) (sv s) (.int .i64 0) (by kernel_rfl) (.ofT (by kernel_rfl)) (.ofT (by kernel_rfl)) ?_
   refine ⟨_, rfl, hE115, ?_⟩
   rw [if_pos hr, hs, show k = l.length by omega]
end Go.Proofs.YtjleeadiadpiaaaGreatDoor
namespace Go.Proofs.YtjleeadiadpiaaaGreatDoor
open Go Go.Fx Go.RowKit Go.Shelf Go.Proofs
def Tryz.lays156_ren : Go.Shelf.Ren := ⟨fun | 156 => 59 | 165 => 94 | 166 => 90 | 169 => 93 | 240 => 126 | 241 => 128 | 276 => 150 | 277 => 152 | n => n, fun | 31 => 30 | 9 => 9 | 3 => 3 | 4 => 4 | 0 => 0 | 20 => 20 | 72 => 142 | 76 => 145 | 70 => 140 | 37 => 128 | 75 => 144 | 127 => 183 | 164 => 203 | 5 => 5 | 80 => 151 | n => n, fun | n => n⟩
theorem Tryz.lays156 : Go.Proofs.Lays.n156 Tryz.prog Tryz.lays156_ren := {
 mixed := by kernel_rfl
 f156 := Tryz.func59.trans (congrArg some (by kernel_rfl))
 f165 := Tryz.func94.trans (congrArg some (by kernel_rfl))
 f166 := Tryz.func90.trans (congrArg some (by kernel_rfl))
 f169 := Tryz.func93.trans (congrArg some (by kernel_rfl))
 f240 := Tryz.func126.trans (congrArg some (by kernel_rfl))
 f241 := Tryz.func128.trans (congrArg some (by kernel_rfl))
 f276 := Tryz.func150.trans (congrArg some (by kernel_rfl))
 f277 := Tryz.func152.trans (congrArg some (by kernel_rfl))
 t0 := Tryz.underlying0
 a0 := Tryz.isAgg0
 z0 := Tryz.sizeOf0
 v0 := Tryz.zeroValue0
 t3 := Tryz.underlying3
 a3 := Tryz.isAgg3
 z3 := Tryz.sizeOf3
 v3 := Tryz.zeroValue3
 t4 := Tryz.underlying4
 a4 := Tryz.isAgg4
 z4 := Tryz.sizeOf4
 v4 := Tryz.zeroValue4
 t9 := Tryz.underlying9
 a9 := Tryz.isAgg9
 z9 := Tryz.sizeOf9
 v9 := Tryz.zeroValue9
 t20 := Tryz.underlying20
 a20 := Tryz.isAgg20
 z20 := Tryz.sizeOf20
 v20 := Tryz.zeroValue20
 t31 := Tryz.underlying30
 a31 := Tryz.isAgg30
 z31 := Tryz.sizeOf30
 v31 := Tryz.zeroValue30
 t37 := Tryz.underlying128
 a37 := Tryz.isAgg128
 z37 := Tryz.sizeOf128
 v37 := Tryz.zeroValue128
 t70 := Tryz.underlying140
 a70 := Tryz.isAgg140
 z70 := Tryz.sizeOf140
 v70 := Tryz.zeroValue140
 t72 := Tryz.underlying142
 a72 := Tryz.isAgg142
 z72 := Tryz.sizeOf142
 v72 := Tryz.zeroValue142
 t75 := Tryz.underlying144
 a75 := Tryz.isAgg144
 z75 := Tryz.sizeOf144
 v75 := Tryz.zeroValue144
 t76 := Tryz.underlying145
 a76 := Tryz.isAgg145
 z76 := Tryz.sizeOf145
 v76 := Tryz.zeroValue145
 t127 := Tryz.underlying183
 a127 := Tryz.isAgg183
 z127 := Tryz.sizeOf183
 v127 := Tryz.zeroValue183
 t164 := Tryz.underlying203
 a164 := Tryz.isAgg203
 z164 := Tryz.sizeOf203
 v164 := Tryz.zeroValue203 }
theorem bldExtra : Builder.Extra Tryz.prog Tryz.lays156_ren where
 sizeBuilder := by kernel_rfl
 liesBuilder := by kernel_rfl
 t5 := Tryz.underlying5
 a5 := Tryz.isAgg5
 z5 := Tryz.sizeOf5
 v5 := Tryz.zeroValue5
 infoByte := by kernel_rfl
 cellsByte := by kernel_rfl
 sizeByte := by kernel_rfl
 neB5 := by decide
theorem join_ok (b c : Nat) (xs : List Str) (sep : Str) (w : World) (hB : Blk w b (xs.map sv) 9) (hn : xs.length ≤ 1000) (hc : xs.length ≤ c) (hlen : (Lib.join xs sep).length ≤ 140737488355328) :
  Calls Tryz.prog 59 #[.slice (some ⟨b, 0, none⟩) xs.length c, sv sep] w (RetW [] w fun v _ => v = sv (Lib.join xs sep)) := by
 have e : (xs.map fun x => (⟨x.toArray⟩ : ByteArray)).map (·.data.toList) = xs := by simp [Function.comp_def]
 have cJ := Any.strings_Join Tryz.lays156 bldExtra b 0 c (xs.map fun x => (⟨x.toArray⟩ : ByteArray)) ⟨sep.toArray⟩ w
  (fun j x hj => by
   rw [List.getElem?_map] at hj
   obtain ⟨y, hy, rfl⟩ := Option.map_eq_some_iff.1 hj
   have hlt := (List.getElem?_eq_some_iff.1 hy).1
   have := hB.cells.2 j (by simpa using hlt)
   rw [add_plain' _ rfl] at this
   rw [this]
   obtain ⟨_, rfl⟩ := List.getElem?_eq_some_iff.1 hy
   simp [sv])
  hB.lt (by rw [List.length_map]; omega) (by rw [List.length_map]; exact hc) (by rw [e]; exact hlen)
 rw [e, List.length_map] at cJ
 refine (show Calls Tryz.prog 59 _ w _ from cJ).mono ?_
 rintro e w' ⟨rfl, hb⟩
 exact ⟨_, rfl, Eff.of_below hb, rfl⟩
end Go.Proofs.YtjleeadiadpiaaaGreatDoor
