import Derived.Test.YtjleeadiadpiaaaGreatDoorK3
set_option linter.unusedVariables false
set_option linter.unusedSimpArgs false
set_option maxRecDepth 100000
namespace Go.Proofs.YtjleeadiadpiaaaGreatDoor
open Go Go.Fx Go.RowKit
def allF (l1 : List (Str × Pg)) : List Pg := ((l1.map (·.1)).mergeSort (fun x y => decide (x ≤ y))).map (cardF l1)
theorem cardF_snoc {l1 : List (Str × Pg)} {ks : List Str} {k : Nat} {q : Str} {x : Pg} (hq : ks[k]? = some q) (hx : cardF l1 q = x) : (ks.take k).map (cardF l1) ++ [x] = (ks.take (k + 1)).map (cardF l1) := by
 obtain ⟨hk, rfl⟩ := List.getElem?_eq_some_iff.1 hq
 rw [List.take_succ_eq_append_getElem hk, List.map_append, hx.symm]; rfl
noncomputable def c24 : Code := bodyOf Tryz.f24
noncomputable def c24_0 : Code := kid 0 c24
noncomputable def o24_0 : Array Oper := regOps c24_0
noncomputable def c24_1 : Code := kid 1 c24
noncomputable def c24_1_0 : Code := kid 0 c24_1
noncomputable def o24_1_0 : Array Oper := regOps c24_1_0
noncomputable def c24_1_1 : Code := kid 1 c24_1
noncomputable def c24_1_1_0 : Code := kid 0 c24_1_1
noncomputable def c24_n6 : Code := kid 0 c24_1_1_0
noncomputable def o24_n6 : Array Oper := regOps c24_n6
noncomputable def c24_n7 : Code := kid 1 c24_1_1_0
noncomputable def c24_n8 : Code := kid 0 c24_n7
noncomputable def c24_n9 : Code := kid 0 c24_n8
noncomputable def o24_n9 : Array Oper := regOps c24_n9
noncomputable def c24_n10 : Code := kid 1 c24_n8
noncomputable def c24_n11 : Code := kid 0 c24_n10
noncomputable def c24_n12 : Code := kid 0 c24_n11
noncomputable def c24_n13 : Code := kid 0 c24_n12
noncomputable def o24_n13 : Array Oper := regOps c24_n13
noncomputable def c24_n14 : Code := kid 1 c24_n12
noncomputable def c24_n15 : Code := kid 0 c24_n14
noncomputable def c24_n16 : Code := kid 0 c24_n15
noncomputable def c24_n17 : Code := kid 1 c24_n15
noncomputable def c24_n18 : Code := kid 1 c24_n14
noncomputable def c24_n19 : Code := kid 0 c24_n18
noncomputable def c24_n20 : Code := kid 0 c24_n19
noncomputable def c24_n21 : Code := kid 0 c24_n20
noncomputable def o24_n21 : Array Oper := regOps c24_n21
noncomputable def c24_n22 : Code := kid 1 c24_n20
noncomputable def o24_n22 : Array Oper := regOps c24_n22
noncomputable def c24_n23 : Code := kid 1 c24_n18
noncomputable def o24_n23 : Array Oper := regOps c24_n23
noncomputable def c24_n24 : Code := kid 1 c24_n7
noncomputable def c24_1_1_1 : Code := kid 1 c24_1_1
noncomputable def c24_n26 : Code := kid 0 c24_1_1_1
noncomputable def o24_n26 : Array Oper := regOps c24_n26
noncomputable def c24_n27 : Code := kid 1 c24_1_1_1
set_option maxHeartbeats 400000 in
theorem all24_ok (M : List Nat) (pb b1 b2 : Nat) (l1 : List (Str × Pg)) (l2 : List (Str × Str)) (z : Value) (w : World) (hB : Blk w pb [.map (some b1), .map (some b2), z] 59) (hp1 : pb ≠ b1) (hp2 : pb ≠ b2) (hM : Mok M w) (Q1 : MapIs Key.str kPg true M w b1 l1) (Q2 : MapIs Key.str Kd.str false M w b2 l2) (hb1 : b1 ∈ M) (hb2 : b2 ∈ M) (hne : b1 ≠ b2) (hs : ∀ q x, mget l1 q = some x → ∀ j, (x.shadow.getD j []).length ≤ 1048576) (hl : l1.length ≤ 1000000) (hkeys : ∀ p ∈ l1, p.1.length < 4611686018427387904) : Calls Tryz.prog 24 #[.pointer (some ⟨pb, 0, none⟩)] w (RetW [] w fun v w' => ∃ b a cap, v = .func (.func 49) #[] #[.pointer (some ⟨b, 0, none⟩)] ∧ Blk w' b [.slice a (allF l1).length cap] 27 ∧ Sl kPg M w' a (allF l1) ∧ w.heap.size ≤ b) := by
 refine calls_of_S (n := 34) (c := c24) Tryz.func24 (by kernel_rfl) (by kernel_rfl) (Nat.le_of_ble_eq_true (by kernel_rfl)) ?_
 have := Q1.lt
 have := Q2.lt
 have := hB.lt
 have hE0 : Eff [] w w := Eff.refl _ _
 refine S.seq (x := c24_0) (y := c24_1) (by kernel_rfl) ?_
 refine S.reg (ops := o24_0) (js := [0]) (by kernel_rfl) (by kernel_rfl) ?_
 refine L.runU [0] [] [(2, .nilFunc)] (by kernel_rfl) (by kernel_rfl) ?_
 refine L.done ?_
 show S _ _ _ c24_1 _ _ _ _
 refine S.seq (x := c24_1_0) (y := c24_1_1) (by kernel_rfl) ?_
 refine S.reg (ops := o24_1_0) (js := [0]) (by kernel_rfl) (by kernel_rfl) ?_
 refine L.alloc [.slice none 0 0] (by kernel_rfl : lookAt _ _ _ _ = some ((Op.alloc 27), some 3)) (by kernel_rfl) ?_
 intro b101 w102 hs103 hz104 E105 B106
 have hE107 := hE0.and0 E105
 have := E105.size
 have Q108 := Q1.step (nNew (fresh1 hs103) same) E105 (by simp) no0
 have Q109 := Q2.step (nNew (fresh1 hs103) same) E105 (by simp) no0
 have B110 := hB.eff0 E105
 have hM111 : Mok ([b101] ++ M) w102 := hM.step E105 (nNew (flt1 (b := b101) (by omega)) same)
 refine L.done ?_
 show S _ _ _ c24_1_1 _ _ _ _
 refine S.seq (x := c24_1_1_0) (y := c24_1_1_1) (by kernel_rfl) ?_
 refine S.seq (x := c24_n6) (y := c24_n7) (by kernel_rfl) ?_
 refine S.reg (ops := o24_n6) (js := [0, 1, 2]) (by kernel_rfl) (by kernel_rfl) ?_
 refine L.runU [0] [1, 2] [(6, .pointer (some ⟨pb, 0, none⟩))] (by kernel_rfl) (by kernel_rfl) ?_
 refine L.call (f := 40) (by kernel_rfl : lookAt _ _ _ _ = some ((Op.call { callee := (Callee.value (Operand.func 40)), args := #[(Operand.tmp 6)], argTypes := #[25] }), some 7)) e40 (by kernel_rfl) (none_no pb b1 (.map (some b2)) (z) _ B110) ?_
 rintro _ w113 E114 rfl
 have hE116 := hE107.and0 E114
 have := E114.size
 have Q117 := Q108.step same E114 (by simp) no0
 have Q118 := Q109.step same E114 (by simp) no0
 have B119 := B110.eff0 E114
 have B120 := B106.eff0 E114
 have hM121 := hM111.eff E114
 refine L.runU [2] [] [(8, .bool true)] (by kernel_rfl) (by kernel_rfl) ?_
 refine L.done ?_
 show S _ _ _ c24_n7 _ _ _ _
 refine S.condT (o := (Operand.tmp 8)) (x := c24_n8) (y := c24_n24) (by kernel_rfl) (by kernel_rfl) ?_
 refine S.seq (x := c24_n9) (y := c24_n10) (by kernel_rfl) ?_
 refine S.reg (ops := o24_n9) (js := [0, 1, 2, 3, 4, 5, 6, 7, 8]) (by kernel_rfl) (by kernel_rfl) ?_
 refine L.runU [0, 1, 2, 3] [4, 5, 6, 7, 8] [(9, .pointer (some ⟨pb, 0, none⟩)), (10, .pointer (some ⟨pb, 0, none⟩)), (11, .pointer (some ⟨pb, 0, none⟩)), (12, .pointer (some ⟨pb, 0, none⟩))] (by kernel_rfl) (by kernel_rfl) ?_
 refine L.val (.map (some b1)) (by kernel_rfl : lookAt _ _ _ _ = some ((Op.load 53 (Operand.tmp 12)), some 13)) (by intro c e; cases e) (rx_load 0 (.map (some b1)) (B119.cells) (by kernel_rfl) (by kernel_rfl)) ?_
 refine L.call (f := 48) (by kernel_rfl : lookAt _ _ _ _ = some ((Op.call { callee := (Callee.value (Operand.func 48)), args := #[(Operand.tmp 13)], argTypes := #[53] }), some 14)) e48 (by kernel_rfl) (keys48_ok b1 _) ?_
 rintro _ w123 E124 ⟨b126, rfl, B127, hb128⟩
 have nm129 := not_mem_of_ge (b := b126) hM121 hb128
 have hE130 := hE116.and0 E124
 have := E124.size
 have Q131 := Q117.step same E124 (by simp) no0
 have Q132 := Q118.step same E124 (by simp) no0
 have B133 := B119.eff0 E124
 have B134 := B120.eff0 E124
 have hM135 := hM121.eff E124
 have := B127.lt
 refine L.call (f := 47) (by kernel_rfl : lookAt _ _ _ _ = some ((Op.call { callee := (Callee.value (Operand.func 47)), args := #[(Operand.tmp 14)], argTypes := #[102] }), some 15)) e47 (by kernel_rfl) (ord47_ok b1 b126 l1 _ (Q131.weak (fun _ h => absurd h List.not_mem_nil)) B127 (by omega) (hkeys)) ?_
 rintro _ w142 E143 ⟨a136, cap137, ks138, rfl, hks139, R140⟩
 have R145 := R140 ([b101] ++ M) hM135
 have hE146 := hE130.and0 E143
 have := E143.size
 have Q147 := Q131.step same E143 (by simp) no0
 have Q148 := Q132.step same E143 (by simp) no0
 have B149 := B133.eff0 E143
 have B150 := B134.eff0 E143
 have B151 := B127.eff0 E143
 have hM152 := hM135.eff E143
 refine L.runU [7, 8] [] [(16, .int .i64 (((ks138.length : Nat) : Int))), (17, .int .i64 0)] (by kernel_rfl) (by kernel_rfl) ?_
 refine L.done ?_
 show S _ _ _ c24_n10 _ _ _ _
 refine S.block (id := 0) (x := c24_n11) (by kernel_rfl) ?_
 have hkl : ks138.length = l1.length := by rw [hks139]; simp
 have O153 : Own kPg 40 w.heap.size ([b101] ++ M) w142 (.slice none 0 0) [] := Own.nil _ _ _ _ _
 have R154 : MapIs Key.str kPg true (ob (.slice none 0 0) ++ ([b101] ++ M)) w142 b1 l1 := Q147
 have R155 : MapIs Key.str Kd.str false (ob (.slice none 0 0) ++ ([b101] ++ M)) w142 b2 l2 := Q148
 have nm156 : b126 ∉ ob (.slice none 0 0) ++ ([b101] ++ M) := nm129
 have R157 : Sl Kd.str (ob (.slice none 0 0) ++ ([b101] ++ M)) w142 a136 ks138 := R145
 have hM158 : Mok (ob (.slice none 0 0) ++ ([b101] ++ M)) w142 := hM152
 refine S.loop (x := c24_n12) (fun m σ' ds' w' => ∃ (k : Nat) (a159 : Option Addr) (cap160 : Nat) (out : List Pg), m = ks138.length - k ∧ (k ≤ ks138.length) ∧ (out = (ks138.take k).map (cardF l1)) ∧ (ks138.length = l1.length) ∧ (out.length ≤ k) ∧ MapIs Key.str kPg true (ob (.slice a159 out.length cap160) ++ ([b101] ++ M)) w' b1 l1 ∧ MapIs Key.str Kd.str false (ob (.slice a159 out.length cap160) ++ ([b101] ++ M)) w' b2 l2 ∧ Blk w' pb ([.map (some b1), .map (some b2), z]) 59 ∧ Blk w' b101 ([.slice a159 out.length cap160]) 27 ∧ Blk w' b126 ([.map (some b1)]) 53 ∧ b126 ∉ ob (.slice a159 out.length cap160) ++ ([b101] ++ M) ∧ Sl Kd.str (ob (.slice a159 out.length cap160) ++ ([b101] ++ M)) w' a136 ks138 ∧ Own kPg 40 w.heap.size ([b101] ++ M) w' (.slice a159 out.length cap160) out ∧ Mok (ob (.slice a159 out.length cap160) ++ ([b101] ++ M)) w' ∧ Eff [] w w' ∧ w142.heap.size ≤ w'.heap.size ∧ ds' = [] ∧ ∃ u, σ' = slots u [(0, .pointer (some ⟨pb, 0, none⟩)), (2, .nilFunc), (3, .pointer (some ⟨b101, 0, none⟩)), (15, .slice a136 ks138.length cap137), (16, .int .i64 (((ks138.length : Nat) : Int))), (17, .int .i64 (((k : Nat) : Int)))]) (ks138.length - 0) (by kernel_rfl) ⟨0, none, 0, [], rfl, (by omega), (by rfl), (by omega), (by exact Nat.zero_le _), R154, R155, B149, B150, B151, nm156, R157, O153, hM158, hE146, (Nat.le_refl _), rfl, _, Holds.eq (l := [(0, .pointer (some ⟨pb, 0, none⟩)), (2, .nilFunc), (3, .pointer (some ⟨b101, 0, none⟩)), (15, .slice a136 ks138.length cap137), (16, .int .i64 (((ks138.length : Nat) : Int))), (17, .int .i64 0)]) ⟨by kernel_rfl, by kernel_rfl, by kernel_rfl, by kernel_rfl, by kernel_rfl, by kernel_rfl, trivial⟩⟩ ?_
 rintro m162 σ' ds' w161 ⟨k, a159, cap160, out, hm164, hk, hout, hkl, hol, F165, F166, F167, F168, F169, nm170, F171, O172, hM173, hE174, hz175, rfl, u163, rfl⟩
 refine S.seq (x := c24_n13) (y := c24_n14) (by kernel_rfl) ?_
 refine S.reg (ops := o24_n13) (js := [0]) (by kernel_rfl) (by kernel_rfl) ?_
 refine L.runU [0] [] [(18, .bool (decide (((k : Nat) : Int) < ((ks138.length : Nat) : Int))))] (by kernel_rfl) (by kernel_rfl) ?_
 refine L.done ?_
 show S _ _ _ c24_n14 _ _ _ _
 refine S.seq (x := c24_n15) (y := c24_n18) (by kernel_rfl) ?_
 refine S.condP (((k : Nat) : Int) < ((ks138.length : Nat) : Int)) (o := (Operand.tmp 18)) (x := c24_n16) (y := c24_n17) (by kernel_rfl) (by kernel_rfl) (fun h176 => ?_) (fun h176 => ?_)
 ·refine S.skip (by kernel_rfl) ?_
  show S _ _ _ c24_n18 _ _ _ _
  refine S.seq (x := c24_n19) (y := c24_n23) (by kernel_rfl) ?_
  refine S.block (id := 1) (x := c24_n20) (by kernel_rfl) ?_
  refine S.seq (x := c24_n21) (y := c24_n22) (by kernel_rfl) ?_
  refine S.reg (ops := o24_n21) (js := [0, 1, 2]) (by kernel_rfl) (by kernel_rfl) ?_
  obtain ⟨x180, hx181⟩ : ∃ x, (ks138)[k]? = some x := ⟨_, List.getElem?_eq_getElem (by omega)⟩
  obtain ⟨p177, _, hp178, A179, ⟨rfl, hl182⟩⟩ := F171.open_ hx181
  have A183 : CAt (ob (.slice a159 out.length cap160) ++ ([b101] ++ M)) w161 (p177.add k) [sv x180] := by have h := A179; rw [show k * (Kd.str).sz = k from Nat.mul_one _] at h; exact h
  refine L.val (.pointer (some (p177.add k))) (by kernel_rfl : lookAt _ _ _ _ = some ((Op.indexAddr 30 (Operand.tmp 15) (Operand.tmp 17)), some 19)) (by intro c e; cases e) (rx_indexAddr (e := 9) (sz := 1) (a := a136) (p := p177) (len := ks138.length) (cap := cap137) (kk := .i64) (i := ((k : Nat) : Int)) k k (by kernel_rfl) hp178 (by kernel_rfl) (by kernel_rfl) (by kernel_rfl) (by omega) (by omega) (by omega)) ?_
  refine L.val (sv x180) (by kernel_rfl : lookAt _ _ _ _ = some ((Op.load 9 (Operand.tmp 19)), some 20)) (by intro c e; cases e) (rx_load 0 (sv x180) (A183.1) (by kernel_rfl) (by kernel_rfl)) ?_
  refine L.runU [2] [] [(5, sv x180)] (by kernel_rfl) (by kernel_rfl) ?_
  refine L.done ?_
  show S _ _ _ c24_n22 _ _ _ _
  refine S.draw (ops := o24_n22) (Eff (ob (.slice a159 out.length cap160) ++ [b101])) 12 #[false, false, false, false, false, false, false, false, false, false, false, false] (by kernel_rfl) (by kernel_rfl) (by kernel_rfl) (by kernel_rfl) ?_
  intro w184 E185 hw186
  have hE188 := hE174.and0 E185
  have := E185.size
  have Q189 := F165.step same E185 (by simp) no0
  have Q190 := F166.step same E185 (by simp) no0
  have B191 := F167.eff0 E185
  have B192 := F168.eff0 E185
  have B193 := F169.eff0 E185
  have R194 := F171.step same E185 no0
  have O195 := O172.step same E185 no0
  have A196 := A183.step same E185 no0
  have hM197 := hM173.eff E185
  have hS187 := Eff.refl (ob (.slice a159 out.length cap160) ++ [b101]) w184
  have mm198 : ∀ x, x ∈ ob (.slice a159 out.length cap160) → x ∈ ob (.slice a159 out.length cap160) ++ [b101] ∨ w184.heap.size ≤ x := fun x hx => .inl (by simp [hx])
  refine D.take 1 (.pointer (some ⟨pb, 0, none⟩)) (some 22) #[false, true, false, false, false, false, false, false, false, false, false, false] (by kernel_rfl) (by kernel_rfl) (by kernel_rfl) (fun _ _ _ _ h => LeaveP.put h (by kernel_rfl)) (.pure (n := 34) (by kernel_rfl)) hS187 ?_
  refine D.take 2 (.pointer (some ⟨pb, 0, none⟩)) (some 23) #[false, true, true, false, false, false, false, false, false, false, false, false] (by kernel_rfl) (by kernel_rfl) (by kernel_rfl) (fun _ _ _ _ h => LeaveP.put h (by kernel_rfl)) (.pure (n := 34) (by kernel_rfl)) hS187 ?_
  refine D.take 3 (.pointer (some ⟨pb, 0, none⟩)) (some 24) #[false, true, true, true, false, false, false, false, false, false, false, false] (by kernel_rfl) (by kernel_rfl) (by kernel_rfl) (fun _ _ _ _ h => LeaveP.put h (by kernel_rfl)) (.pure (n := 34) (by kernel_rfl)) hS187 ?_
  refine D.take 4 (.pointer (some ⟨pb, 0, none⟩)) (some 25) #[false, true, true, true, true, false, false, false, false, false, false, false] (by kernel_rfl) (by kernel_rfl) (by kernel_rfl) (fun _ _ _ _ h => LeaveP.put h (by kernel_rfl)) (.pure (n := 34) (by kernel_rfl)) hS187 ?_
  refine D.take 5 (.map (some b1)) (some 26) #[false, true, true, true, true, true, false, false, false, false, false, false] (by kernel_rfl) (by kernel_rfl) (by kernel_rfl) (fun _ _ _ _ h => LeaveP.put h (by kernel_rfl)) (.val (n := 34) (by kernel_rfl : lookAt _ _ _ _ = some ((Op.load 53 (Operand.tmp 25)), some 26)) (by intro c e; cases e) (fun _ h => rx_load 0 (.map (some b1)) ((B191.eff h (nin (fun h => absurd (O195.lt _ h).1 (by omega)) (notin1 (by omega)))).cells) (by kernel_rfl) (by kernel_rfl))) hS187 ?_
  refine D.take 6 (sv x180) (some 27) #[false, true, true, true, true, true, true, false, false, false, false, false] (by kernel_rfl) (by kernel_rfl) (by kernel_rfl) (fun _ _ _ _ h => LeaveP.put h (by kernel_rfl)) (.pure (n := 34) (by kernel_rfl)) hS187 ?_
  rcases hg199 : mget l1 x180 with _ | y200
  ·have look201 := look_none (P := Tryz.prog) (t := 53) (kt := 9) (et := 40) (zv := .agg #[sv [], sv [], .slice none 0 0, .slice none 0 0, .slice none 0 0, .slice none 0 0, .slice none 0 0, .slice none 0 0, .slice none 0 0, .slice none 0 0]) hg199 Q189 (by kernel_rfl) (by kernel_rfl) (fun _ => by kernel_rfl)
   have := Q189.lt
   refine D.take 7 (.agg #[sv [], sv [], .slice none 0 0, .slice none 0 0, .slice none 0 0, .slice none 0 0, .slice none 0 0, .slice none 0 0, .slice none 0 0, .slice none 0 0]) (some 28) #[false, true, true, true, true, true, true, true, false, false, false, false] (by kernel_rfl) (by kernel_rfl) (by kernel_rfl) (fun _ _ _ _ h => LeaveP.put h (by kernel_rfl)) (.val (n := 34) (by kernel_rfl : lookAt _ _ _ _ = some ((Op.lookup 53 (Operand.tmp 26) (Operand.tmp 27) Bool.false), some 28)) (by intro c e; cases e) (fun _ h => look201 _ _ _ _ false _ (by kernel_rfl) (by kernel_rfl) (h.same _ Q189.lt (nin (fun h => absurd (O195.lt _ h).1 (by omega)) (notin1 (by omega)))))) hS187 ?_
   refine D.all [0, 8] (by kernel_rfl) (by kernel_rfl) ⟨?_, ?_, trivial⟩
   ·refine L.val (.slice a159 out.length cap160) (by kernel_rfl : lookAt _ _ _ _ = some ((Op.load 27 (Operand.tmp 3)), some 21)) (by intro c e; cases e) (rx_load 0 (.slice a159 out.length cap160) (B192.cells) (by kernel_rfl) (by kernel_rfl)) ?_
    refine ⟨hS187, ?_⟩
    refine D.all [8] (by kernel_rfl) (by kernel_rfl) ⟨?_, trivial⟩
    refine L.call (f := 41) (by kernel_rfl : lookAt _ _ _ _ = some ((Op.call { callee := (Callee.value (Operand.func 41)), args := #[(Operand.tmp 28)], argTypes := #[40] }), some 29)) e41 (by kernel_rfl) (copied_ok (ob (.slice a159 out.length cap160) ++ ([b101] ++ M)) [sv [], sv [], .slice none 0 0, .slice none 0 0, .slice none 0 0, .slice none 0 0, .slice none 0 0, .slice none 0 0, .slice none 0 0, .slice none 0 0] ((⟨[], [], (List.replicate 8 [])⟩ : Pg)) _ hM197 (⟨[sv []], [sv [], .slice none 0 0, .slice none 0 0, .slice none 0 0, .slice none 0 0, .slice none 0 0, .slice none 0 0, .slice none 0 0, .slice none 0 0], rfl, ⟨rfl, by (simp only [List.length_cons, List.length_nil, List.length_append, List.length_take, List.length_drop, List.length_map, List.length_replicate] <;> omega)⟩, ⟨[sv []], [.slice none 0 0, .slice none 0 0, .slice none 0 0, .slice none 0 0, .slice none 0 0, .slice none 0 0, .slice none 0 0, .slice none 0 0], rfl, ⟨rfl, by (simp only [List.length_cons, List.length_nil, List.length_append, List.length_take, List.length_drop, List.length_map, List.length_replicate] <;> omega)⟩, ⟨_, _, _, _, _, _, _, _, rfl, arr_nil⟩⟩⟩) small0) ?_
    rintro _ w205 E206 ⟨cs202, rfl, R203⟩
    obtain ⟨_, _, rfl, ⟨rfl, hl208⟩, ⟨_, _, rfl, ⟨rfl, hl209⟩, ⟨v210, v211, v212, v213, v214, v215, v216, v217, rfl, C218⟩⟩⟩ := R203
    have hE219 := hE188.and0 E206
    have := E206.size
    have hS220 := hS187.and0 E206
    have Q221 := Q189.step same E206 (by simp) no0
    have Q222 := Q190.step same E206 (by simp) no0
    have B223 := B191.eff0 E206
    have B224 := B192.eff0 E206
    have B225 := B193.eff0 E206
    have R226 := R194.step same E206 no0
    have O227 := O195.step same E206 no0
    have A228 := A196.step same E206 no0
    have hM229 := hM197.eff E206
    refine ⟨hS220, ?_⟩
    refine D.all [9] (by kernel_rfl) (by kernel_rfl) ⟨?_, trivial⟩
    refine L.newRow (fun b => .slice (some ⟨b, 0, none⟩) 1 1) [sv (((⟨[], [], (List.replicate 8 [])⟩ : Pg)).href), sv (((⟨[], [], (List.replicate 8 [])⟩ : Pg)).uuid), v210, v211, v212, v213, v214, v215, v216, v217] 40 (by kernel_rfl : lookAt _ _ _ _ = some ((Op.buildSlice 27 1 #[(0, (Operand.tmp 29))]), some 30)) (by intro c e; cases e) (fun w => by kernel_rfl) ?_
    intro b230 w231 hs232 hz233 E234 B235
    have nm236 := not_mem_of_ge (b := b230) hM229 (by omega)
    have hE237 := hE219.and0 E234
    have := E234.size
    have hS238 := hS220.and0 E234
    have Q239 := Q221.step same E234 (by simp) no0
    have Q240 := Q222.step same E234 (by simp) no0
    have B241 := B223.eff0 E234
    have B242 := B224.eff0 E234
    have B243 := B225.eff0 E234
    have R244 := R226.step same E234 no0
    have O245 := O227.step same E234 no0
    have A246 := A228.step same E234 no0
    have C247 := Kd.step (Kd.array 8 [] (Kd.slice Kd.str) rfl) C218 same E234 no0
    have hM248 := hM229.eff E234
    refine ⟨hS238, ?_⟩
    refine D.all [10] (by kernel_rfl) (by kernel_rfl) ⟨?_, trivial⟩
    refine L.append (K := kPg) (e := 40) (base := w.heap.size) (bytes := 224) (M := [b101] ++ M) (v := .slice a159 out.length cap160) (xs := out) (ys := [(⟨((⟨[], [], (List.replicate 8 [])⟩ : Pg)).href, ((⟨[], [], (List.replicate 8 [])⟩ : Pg)).uuid, ((⟨[], [], (List.replicate 8 [])⟩ : Pg)).shadow⟩ : Pg)]) (a := some ⟨b230, 0, none⟩) (cap := 1) (by kernel_rfl : lookAt _ _ _ _ = some ((Op.call { callee := (Callee.builtin Builtin.append), args := #[(Operand.tmp 21), (Operand.tmp 30)], argTypes := #[27, 27] }), some 31)) (by kernel_rfl) (by kernel_rfl) (by kernel_rfl) (by kernel_rfl) O245 (Sl.one (K := kPg) (x := ((⟨((⟨[], [], (List.replicate 8 [])⟩ : Pg)).href, ((⟨[], [], (List.replicate 8 [])⟩ : Pg)).uuid, ((⟨[], [], (List.replicate 8 [])⟩ : Pg)).shadow⟩ : Pg))) B235 nm236 ⟨[sv (((⟨[], [], (List.replicate 8 [])⟩ : Pg)).href)], [sv (((⟨[], [], (List.replicate 8 [])⟩ : Pg)).uuid), v210, v211, v212, v213, v214, v215, v216, v217], rfl, ⟨rfl, by omega⟩, ⟨[sv (((⟨[], [], (List.replicate 8 [])⟩ : Pg)).uuid)], [v210, v211, v212, v213, v214, v215, v216, v217], rfl, ⟨rfl, by omega⟩, ⟨_, _, _, _, _, _, _, _, rfl, C247⟩⟩⟩) (hM248.sub (sDrop sSame)) (by (simp only [List.length_cons, List.length_nil, List.length_append, List.length_take, List.length_drop, List.length_map, List.length_replicate] <;> omega)) (by omega) hE237.size ?_
    intro v249 w250 O251 E252 hat253
    obtain ⟨a254, cap255, rfl⟩ := O251.slice
    have hat256 := hatN hat253
    have hE257 := hE237.andMem E252 (memOwn O245 (Nat.le_refl _))
    have := E252.size
    have hS258 := hS238.andMem E252 mm198
    have mm259 := memN (base := w184.heap.size) mm198 hat256 (by omega)
    have Q260 := Q239.step (nTurn hat256 (nKeep same)) E252 (fun h => absurd (O245.lt _ h).1 (by omega)) (fun _ h => List.mem_append_left _ (h))
    have Q261 := Q240.step (nTurn hat256 (nKeep same)) E252 (fun h => absurd (O245.lt _ h).1 (by omega)) (fun _ h => List.mem_append_left _ (h))
    have B262 := B241.eff E252 (fun h => absurd (O245.lt _ h).1 (by omega))
    have B263 := B242.eff E252 (O245.apart (List.mem_append_left _ (List.mem_singleton.2 rfl)))
    have nm265 := ninN nm170 B243.lt (nTurn hat256 (nKeep same))
    have B264 := B243.eff E252 (fun h => nm170 (List.mem_append_left _ (h)))
    have R266 := R244.step (nTurn hat256 (nKeep same)) E252 (fun _ h => List.mem_append_left _ (h))
    have A267 := A246.step (nTurn hat256 (nKeep same)) E252 (fun _ h => List.mem_append_left _ (h))
    have C268 := Kd.step (Kd.array 8 [] (Kd.slice Kd.str) rfl) C247 (nTurn hat256 (nKeep same)) E252 (fun _ h => List.mem_append_left _ (h))
    have nm270 := ninN nm236 B235.lt (nTurn hat256 (nKeep same))
    have B269 := B235.eff E252 (fun h => nm236 (List.mem_append_left _ (h)))
    have hM271 : Mok (ob (.slice a254 ((out ++ [(⟨((⟨[], [], (List.replicate 8 [])⟩ : Pg)).href, ((⟨[], [], (List.replicate 8 [])⟩ : Pg)).uuid, ((⟨[], [], (List.replicate 8 [])⟩ : Pg)).shadow⟩ : Pg)]).length) cap255) ++ ([b101] ++ M)) w250 := hM248.step E252 (nTurn (fun b hb => .inr ((fun b hb => (O251.lt b hb).2) b hb)) (nKeep same))
    refine ⟨hS258, ?_⟩
    refine D.all [11] (by kernel_rfl) (by kernel_rfl) ⟨?_, trivial⟩
    refine L.store 0 [.slice a254 ((out ++ [(⟨((⟨[], [], (List.replicate 8 [])⟩ : Pg)).href, ((⟨[], [], (List.replicate 8 [])⟩ : Pg)).uuid, ((⟨[], [], (List.replicate 8 [])⟩ : Pg)).shadow⟩ : Pg)]).length) cap255] [.slice a254 ((out ++ [(⟨((⟨[], [], (List.replicate 8 [])⟩ : Pg)).href, ((⟨[], [], (List.replicate 8 [])⟩ : Pg)).uuid, ((⟨[], [], (List.replicate 8 [])⟩ : Pg)).shadow⟩ : Pg)]).length) cap255] (by kernel_rfl : lookAt _ _ _ _ = some ((Op.store 27 (Operand.tmp 3) (Operand.tmp 31)), none)) (by kernel_rfl) B263 (by kernel_rfl) (by kernel_rfl) (by kernel_rfl) (one_of_all (by kernel_rfl)) (by kernel_rfl) ?_
    intro w272 E273 hz274 B275
    have hE276 := hE257.and1 E273 (by omega)
    have := E273.size
    have hS277 := hS258.andIn E273 (in1 (by simp))
    have Q278 := Q260.step same E273 (notin1 (by omega)) (in1 (List.mem_append_right _ (List.mem_append_left _ (List.mem_singleton.2 rfl))))
    have Q279 := Q261.step same E273 (notin1 (by omega)) (in1 (List.mem_append_right _ (List.mem_append_left _ (List.mem_singleton.2 rfl))))
    have B280 := B262.eff1 E273 (by omega)
    have B281 := B264.eff1 E273 (by omega)
    have R282 := R266.step same E273 (in1 (List.mem_append_right _ (List.mem_append_left _ (List.mem_singleton.2 rfl))))
    have A283 := A267.step same E273 (in1 (List.mem_append_right _ (List.mem_append_left _ (List.mem_singleton.2 rfl))))
    have C284 := Kd.step (Kd.array 8 [] (Kd.slice Kd.str) rfl) C268 same E273 (in1 (List.mem_append_right _ (List.mem_append_left _ (List.mem_singleton.2 rfl))))
    have B285 := B269.eff1 E273 (by omega)
    have O286 := O251.step same E273 (in1 (List.mem_append_left _ (List.mem_singleton.2 rfl)))
    have hM287 := hM271.eff E273
    refine ⟨hS277, ?_⟩
    refine D.done _ (by kernel_rfl) ?_
    show S _ _ _ c24_n23 _ _ _ _
    refine S.reg (ops := o24_n23) (js := [0, 1]) (by kernel_rfl) (by kernel_rfl) ?_
    refine L.runU [0] [1] [(32, .int .i64 (IntKind.i64.wrap (((k : Nat) : Int) + 1)))] (by kernel_rfl) (by kernel_rfl) ?_
    refine X.re64 (G := fun σ => L _ _ _ _ _ _ σ _ _) (d := 32) (((k : Nat) : Int) + 1) (((k + 1 : Nat) : Int)) (by kernel_rfl) (by omega) ?_
    refine L.runU [1] [] [(17, .int .i64 (((k + 1 : Nat) : Int)))] (by kernel_rfl) (by kernel_rfl) ?_
    refine L.done ?_
    show ∃ m', m' < _ ∧ _
    refine ⟨ks138.length - (k + 1), ?_, ⟨k + 1, a254, cap255, out ++ [(⟨((⟨[], [], (List.replicate 8 [])⟩ : Pg)).href, ((⟨[], [], (List.replicate 8 [])⟩ : Pg)).uuid, ((⟨[], [], (List.replicate 8 [])⟩ : Pg)).shadow⟩ : Pg)], rfl, (by omega), (by rw [hout]; exact cardF_snoc hx181 (by simp only [cardF, hg199] <;> rfl)), (by omega), (by (simp only [List.length_cons, List.length_nil, List.length_append, List.length_take, List.length_drop, List.length_map, List.length_replicate] <;> omega)), Q278, Q279, B280, B275, B281, nm265, R282, O286, hM287, hE276, (by omega), rfl, _, Holds.eq (l := [(0, .pointer (some ⟨pb, 0, none⟩)), (2, .nilFunc), (3, .pointer (some ⟨b101, 0, none⟩)), (15, .slice a136 ks138.length cap137), (16, .int .i64 (((ks138.length : Nat) : Int))), (17, .int .i64 (((k + 1 : Nat) : Int)))]) ⟨by kernel_rfl, by kernel_rfl, by kernel_rfl, by kernel_rfl, by kernel_rfl, by kernel_rfl, trivial⟩⟩⟩
    omega
   ·refine L.call (f := 41) (by kernel_rfl : lookAt _ _ _ _ = some ((Op.call { callee := (Callee.value (Operand.func 41)), args := #[(Operand.tmp 28)], argTypes := #[40] }), some 29)) e41 (by kernel_rfl) (copied_ok (ob (.slice a159 out.length cap160) ++ ([b101] ++ M)) [sv [], sv [], .slice none 0 0, .slice none 0 0, .slice none 0 0, .slice none 0 0, .slice none 0 0, .slice none 0 0, .slice none 0 0, .slice none 0 0] ((⟨[], [], (List.replicate 8 [])⟩ : Pg)) _ hM197 (⟨[sv []], [sv [], .slice none 0 0, .slice none 0 0, .slice none 0 0, .slice none 0 0, .slice none 0 0, .slice none 0 0, .slice none 0 0, .slice none 0 0], rfl, ⟨rfl, by (simp only [List.length_cons, List.length_nil, List.length_append, List.length_take, List.length_drop, List.length_map, List.length_replicate] <;> omega)⟩, ⟨[sv []], [.slice none 0 0, .slice none 0 0, .slice none 0 0, .slice none 0 0, .slice none 0 0, .slice none 0 0, .slice none 0 0, .slice none 0 0], rfl, ⟨rfl, by (simp only [List.length_cons, List.length_nil, List.length_append, List.length_take, List.length_drop, List.length_map, List.length_replicate] <;> omega)⟩, ⟨_, _, _, _, _, _, _, _, rfl, arr_nil⟩⟩⟩) small0) ?_
    rintro _ w291 E292 ⟨cs288, rfl, R289⟩
    obtain ⟨_, _, rfl, ⟨rfl, hl294⟩, ⟨_, _, rfl, ⟨rfl, hl295⟩, ⟨v296, v297, v298, v299, v300, v301, v302, v303, rfl, C304⟩⟩⟩ := R289
    have hE305 := hE188.and0 E292
    have := E292.size
    have hS306 := hS187.and0 E292
    have Q307 := Q189.step same E292 (by simp) no0
    have Q308 := Q190.step same E292 (by simp) no0
    have B309 := B191.eff0 E292
    have B310 := B192.eff0 E292
    have B311 := B193.eff0 E292
    have R312 := R194.step same E292 no0
    have O313 := O195.step same E292 no0
    have A314 := A196.step same E292 no0
    have hM315 := hM197.eff E292
    refine ⟨hS306, ?_⟩
    refine D.all [0, 9] (by kernel_rfl) (by kernel_rfl) ⟨?_, ?_, trivial⟩
    ·refine L.val (.slice a159 out.length cap160) (by kernel_rfl : lookAt _ _ _ _ = some ((Op.load 27 (Operand.tmp 3)), some 21)) (by intro c e; cases e) (rx_load 0 (.slice a159 out.length cap160) (B310.cells) (by kernel_rfl) (by kernel_rfl)) ?_
     refine ⟨hS306, ?_⟩
     refine D.all [9] (by kernel_rfl) (by kernel_rfl) ⟨?_, trivial⟩
     refine L.newRow (fun b => .slice (some ⟨b, 0, none⟩) 1 1) [sv (((⟨[], [], (List.replicate 8 [])⟩ : Pg)).href), sv (((⟨[], [], (List.replicate 8 [])⟩ : Pg)).uuid), v296, v297, v298, v299, v300, v301, v302, v303] 40 (by kernel_rfl : lookAt _ _ _ _ = some ((Op.buildSlice 27 1 #[(0, (Operand.tmp 29))]), some 30)) (by intro c e; cases e) (fun w => by kernel_rfl) ?_
     intro b316 w317 hs318 hz319 E320 B321
     have nm322 := not_mem_of_ge (b := b316) hM315 (by omega)
     have hE323 := hE305.and0 E320
     have := E320.size
     have hS324 := hS306.and0 E320
     have Q325 := Q307.step same E320 (by simp) no0
     have Q326 := Q308.step same E320 (by simp) no0
     have B327 := B309.eff0 E320
     have B328 := B310.eff0 E320
     have B329 := B311.eff0 E320
     have R330 := R312.step same E320 no0
     have O331 := O313.step same E320 no0
     have A332 := A314.step same E320 no0
     have C333 := Kd.step (Kd.array 8 [] (Kd.slice Kd.str) rfl) C304 same E320 no0
     have hM334 := hM315.eff E320
     refine ⟨hS324, ?_⟩
     refine D.all [10] (by kernel_rfl) (by kernel_rfl) ⟨?_, trivial⟩
     refine L.append (K := kPg) (e := 40) (base := w.heap.size) (bytes := 224) (M := [b101] ++ M) (v := .slice a159 out.length cap160) (xs := out) (ys := [(⟨((⟨[], [], (List.replicate 8 [])⟩ : Pg)).href, ((⟨[], [], (List.replicate 8 [])⟩ : Pg)).uuid, ((⟨[], [], (List.replicate 8 [])⟩ : Pg)).shadow⟩ : Pg)]) (a := some ⟨b316, 0, none⟩) (cap := 1) (by kernel_rfl : lookAt _ _ _ _ = some ((Op.call { callee := (Callee.builtin Builtin.append), args := #[(Operand.tmp 21), (Operand.tmp 30)], argTypes := #[27, 27] }), some 31)) (by kernel_rfl) (by kernel_rfl) (by kernel_rfl) (by kernel_rfl) O331 (Sl.one (K := kPg) (x := ((⟨((⟨[], [], (List.replicate 8 [])⟩ : Pg)).href, ((⟨[], [], (List.replicate 8 [])⟩ : Pg)).uuid, ((⟨[], [], (List.replicate 8 [])⟩ : Pg)).shadow⟩ : Pg))) B321 nm322 ⟨[sv (((⟨[], [], (List.replicate 8 [])⟩ : Pg)).href)], [sv (((⟨[], [], (List.replicate 8 [])⟩ : Pg)).uuid), v296, v297, v298, v299, v300, v301, v302, v303], rfl, ⟨rfl, by omega⟩, ⟨[sv (((⟨[], [], (List.replicate 8 [])⟩ : Pg)).uuid)], [v296, v297, v298, v299, v300, v301, v302, v303], rfl, ⟨rfl, by omega⟩, ⟨_, _, _, _, _, _, _, _, rfl, C333⟩⟩⟩) (hM334.sub (sDrop sSame)) (by (simp only [List.length_cons, List.length_nil, List.length_append, List.length_take, List.length_drop, List.length_map, List.length_replicate] <;> omega)) (by omega) hE323.size ?_
     intro v335 w336 O337 E338 hat339
     obtain ⟨a340, cap341, rfl⟩ := O337.slice
     have hat342 := hatN hat339
     have hE343 := hE323.andMem E338 (memOwn O331 (Nat.le_refl _))
     have := E338.size
     have hS344 := hS324.andMem E338 mm198
     have mm345 := memN (base := w184.heap.size) mm198 hat342 (by omega)
     have Q346 := Q325.step (nTurn hat342 (nKeep same)) E338 (fun h => absurd (O331.lt _ h).1 (by omega)) (fun _ h => List.mem_append_left _ (h))
     have Q347 := Q326.step (nTurn hat342 (nKeep same)) E338 (fun h => absurd (O331.lt _ h).1 (by omega)) (fun _ h => List.mem_append_left _ (h))
     have B348 := B327.eff E338 (fun h => absurd (O331.lt _ h).1 (by omega))
     have B349 := B328.eff E338 (O331.apart (List.mem_append_left _ (List.mem_singleton.2 rfl)))
     have nm351 := ninN nm170 B329.lt (nTurn hat342 (nKeep same))
     have B350 := B329.eff E338 (fun h => nm170 (List.mem_append_left _ (h)))
     have R352 := R330.step (nTurn hat342 (nKeep same)) E338 (fun _ h => List.mem_append_left _ (h))
     have A353 := A332.step (nTurn hat342 (nKeep same)) E338 (fun _ h => List.mem_append_left _ (h))
     have C354 := Kd.step (Kd.array 8 [] (Kd.slice Kd.str) rfl) C333 (nTurn hat342 (nKeep same)) E338 (fun _ h => List.mem_append_left _ (h))
     have nm356 := ninN nm322 B321.lt (nTurn hat342 (nKeep same))
     have B355 := B321.eff E338 (fun h => nm322 (List.mem_append_left _ (h)))
     have hM357 : Mok (ob (.slice a340 ((out ++ [(⟨((⟨[], [], (List.replicate 8 [])⟩ : Pg)).href, ((⟨[], [], (List.replicate 8 [])⟩ : Pg)).uuid, ((⟨[], [], (List.replicate 8 [])⟩ : Pg)).shadow⟩ : Pg)]).length) cap341) ++ ([b101] ++ M)) w336 := hM334.step E338 (nTurn (fun b hb => .inr ((fun b hb => (O337.lt b hb).2) b hb)) (nKeep same))
     refine ⟨hS344, ?_⟩
     refine D.all [11] (by kernel_rfl) (by kernel_rfl) ⟨?_, trivial⟩
     refine L.store 0 [.slice a340 ((out ++ [(⟨((⟨[], [], (List.replicate 8 [])⟩ : Pg)).href, ((⟨[], [], (List.replicate 8 [])⟩ : Pg)).uuid, ((⟨[], [], (List.replicate 8 [])⟩ : Pg)).shadow⟩ : Pg)]).length) cap341] [.slice a340 ((out ++ [(⟨((⟨[], [], (List.replicate 8 [])⟩ : Pg)).href, ((⟨[], [], (List.replicate 8 [])⟩ : Pg)).uuid, ((⟨[], [], (List.replicate 8 [])⟩ : Pg)).shadow⟩ : Pg)]).length) cap341] (by kernel_rfl : lookAt _ _ _ _ = some ((Op.store 27 (Operand.tmp 3) (Operand.tmp 31)), none)) (by kernel_rfl) B349 (by kernel_rfl) (by kernel_rfl) (by kernel_rfl) (one_of_all (by kernel_rfl)) (by kernel_rfl) ?_
     intro w358 E359 hz360 B361
     have hE362 := hE343.and1 E359 (by omega)
     have := E359.size
     have hS363 := hS344.andIn E359 (in1 (by simp))
     have Q364 := Q346.step same E359 (notin1 (by omega)) (in1 (List.mem_append_right _ (List.mem_append_left _ (List.mem_singleton.2 rfl))))
     have Q365 := Q347.step same E359 (notin1 (by omega)) (in1 (List.mem_append_right _ (List.mem_append_left _ (List.mem_singleton.2 rfl))))
     have B366 := B348.eff1 E359 (by omega)
     have B367 := B350.eff1 E359 (by omega)
     have R368 := R352.step same E359 (in1 (List.mem_append_right _ (List.mem_append_left _ (List.mem_singleton.2 rfl))))
     have A369 := A353.step same E359 (in1 (List.mem_append_right _ (List.mem_append_left _ (List.mem_singleton.2 rfl))))
     have C370 := Kd.step (Kd.array 8 [] (Kd.slice Kd.str) rfl) C354 same E359 (in1 (List.mem_append_right _ (List.mem_append_left _ (List.mem_singleton.2 rfl))))
     have B371 := B355.eff1 E359 (by omega)
     have O372 := O337.step same E359 (in1 (List.mem_append_left _ (List.mem_singleton.2 rfl)))
     have hM373 := hM357.eff E359
     refine ⟨hS363, ?_⟩
     refine D.done _ (by kernel_rfl) ?_
     show S _ _ _ c24_n23 _ _ _ _
     refine S.reg (ops := o24_n23) (js := [0, 1]) (by kernel_rfl) (by kernel_rfl) ?_
     refine L.runU [0] [1] [(32, .int .i64 (IntKind.i64.wrap (((k : Nat) : Int) + 1)))] (by kernel_rfl) (by kernel_rfl) ?_
     refine X.re64 (G := fun σ => L _ _ _ _ _ _ σ _ _) (d := 32) (((k : Nat) : Int) + 1) (((k + 1 : Nat) : Int)) (by kernel_rfl) (by omega) ?_
     refine L.runU [1] [] [(17, .int .i64 (((k + 1 : Nat) : Int)))] (by kernel_rfl) (by kernel_rfl) ?_
     refine L.done ?_
     show ∃ m', m' < _ ∧ _
     refine ⟨ks138.length - (k + 1), ?_, ⟨k + 1, a340, cap341, out ++ [(⟨((⟨[], [], (List.replicate 8 [])⟩ : Pg)).href, ((⟨[], [], (List.replicate 8 [])⟩ : Pg)).uuid, ((⟨[], [], (List.replicate 8 [])⟩ : Pg)).shadow⟩ : Pg)], rfl, (by omega), (by rw [hout]; exact cardF_snoc hx181 (by simp only [cardF, hg199] <;> rfl)), (by omega), (by (simp only [List.length_cons, List.length_nil, List.length_append, List.length_take, List.length_drop, List.length_map, List.length_replicate] <;> omega)), Q364, Q365, B366, B361, B367, nm351, R368, O372, hM373, hE362, (by omega), rfl, _, Holds.eq (l := [(0, .pointer (some ⟨pb, 0, none⟩)), (2, .nilFunc), (3, .pointer (some ⟨b101, 0, none⟩)), (15, .slice a136 ks138.length cap137), (16, .int .i64 (((ks138.length : Nat) : Int))), (17, .int .i64 (((k + 1 : Nat) : Int)))]) ⟨by kernel_rfl, by kernel_rfl, by kernel_rfl, by kernel_rfl, by kernel_rfl, by kernel_rfl, trivial⟩⟩⟩
     omega
    ·refine L.newRow (fun b => .slice (some ⟨b, 0, none⟩) 1 1) [sv (((⟨[], [], (List.replicate 8 [])⟩ : Pg)).href), sv (((⟨[], [], (List.replicate 8 [])⟩ : Pg)).uuid), v296, v297, v298, v299, v300, v301, v302, v303] 40 (by kernel_rfl : lookAt _ _ _ _ = some ((Op.buildSlice 27 1 #[(0, (Operand.tmp 29))]), some 30)) (by intro c e; cases e) (fun w => by kernel_rfl) ?_
     intro b374 w375 hs376 hz377 E378 B379
     have nm380 := not_mem_of_ge (b := b374) hM315 (by omega)
     have hE381 := hE305.and0 E378
     have := E378.size
     have hS382 := hS306.and0 E378
     have Q383 := Q307.step same E378 (by simp) no0
     have Q384 := Q308.step same E378 (by simp) no0
     have B385 := B309.eff0 E378
     have B386 := B310.eff0 E378
     have B387 := B311.eff0 E378
     have R388 := R312.step same E378 no0
     have O389 := O313.step same E378 no0
     have A390 := A314.step same E378 no0
     have C391 := Kd.step (Kd.array 8 [] (Kd.slice Kd.str) rfl) C304 same E378 no0
     have hM392 := hM315.eff E378
     refine ⟨hS382, ?_⟩
     refine D.all [0] (by kernel_rfl) (by kernel_rfl) ⟨?_, trivial⟩
     refine L.val (.slice a159 out.length cap160) (by kernel_rfl : lookAt _ _ _ _ = some ((Op.load 27 (Operand.tmp 3)), some 21)) (by intro c e; cases e) (rx_load 0 (.slice a159 out.length cap160) (B386.cells) (by kernel_rfl) (by kernel_rfl)) ?_
     refine ⟨hS382, ?_⟩
     refine D.all [10] (by kernel_rfl) (by kernel_rfl) ⟨?_, trivial⟩
     refine L.append (K := kPg) (e := 40) (base := w.heap.size) (bytes := 224) (M := [b101] ++ M) (v := .slice a159 out.length cap160) (xs := out) (ys := [(⟨((⟨[], [], (List.replicate 8 [])⟩ : Pg)).href, ((⟨[], [], (List.replicate 8 [])⟩ : Pg)).uuid, ((⟨[], [], (List.replicate 8 [])⟩ : Pg)).shadow⟩ : Pg)]) (a := some ⟨b374, 0, none⟩) (cap := 1) (by kernel_rfl : lookAt _ _ _ _ = some ((Op.call { callee := (Callee.builtin Builtin.append), args := #[(Operand.tmp 21), (Operand.tmp 30)], argTypes := #[27, 27] }), some 31)) (by kernel_rfl) (by kernel_rfl) (by kernel_rfl) (by kernel_rfl) O389 (Sl.one (K := kPg) (x := ((⟨((⟨[], [], (List.replicate 8 [])⟩ : Pg)).href, ((⟨[], [], (List.replicate 8 [])⟩ : Pg)).uuid, ((⟨[], [], (List.replicate 8 [])⟩ : Pg)).shadow⟩ : Pg))) B379 nm380 ⟨[sv (((⟨[], [], (List.replicate 8 [])⟩ : Pg)).href)], [sv (((⟨[], [], (List.replicate 8 [])⟩ : Pg)).uuid), v296, v297, v298, v299, v300, v301, v302, v303], rfl, ⟨rfl, by omega⟩, ⟨[sv (((⟨[], [], (List.replicate 8 [])⟩ : Pg)).uuid)], [v296, v297, v298, v299, v300, v301, v302, v303], rfl, ⟨rfl, by omega⟩, ⟨_, _, _, _, _, _, _, _, rfl, C391⟩⟩⟩) (hM392.sub (sDrop sSame)) (by (simp only [List.length_cons, List.length_nil, List.length_append, List.length_take, List.length_drop, List.length_map, List.length_replicate] <;> omega)) (by omega) hE381.size ?_
     intro v393 w394 O395 E396 hat397
     obtain ⟨a398, cap399, rfl⟩ := O395.slice
     have hat400 := hatN hat397
     have hE401 := hE381.andMem E396 (memOwn O389 (Nat.le_refl _))
     have := E396.size
     have hS402 := hS382.andMem E396 mm198
     have mm403 := memN (base := w184.heap.size) mm198 hat400 (by omega)
     have Q404 := Q383.step (nTurn hat400 (nKeep same)) E396 (fun h => absurd (O389.lt _ h).1 (by omega)) (fun _ h => List.mem_append_left _ (h))
     have Q405 := Q384.step (nTurn hat400 (nKeep same)) E396 (fun h => absurd (O389.lt _ h).1 (by omega)) (fun _ h => List.mem_append_left _ (h))
     have B406 := B385.eff E396 (fun h => absurd (O389.lt _ h).1 (by omega))
     have B407 := B386.eff E396 (O389.apart (List.mem_append_left _ (List.mem_singleton.2 rfl)))
     have nm409 := ninN nm170 B387.lt (nTurn hat400 (nKeep same))
     have B408 := B387.eff E396 (fun h => nm170 (List.mem_append_left _ (h)))
     have R410 := R388.step (nTurn hat400 (nKeep same)) E396 (fun _ h => List.mem_append_left _ (h))
     have A411 := A390.step (nTurn hat400 (nKeep same)) E396 (fun _ h => List.mem_append_left _ (h))
     have C412 := Kd.step (Kd.array 8 [] (Kd.slice Kd.str) rfl) C391 (nTurn hat400 (nKeep same)) E396 (fun _ h => List.mem_append_left _ (h))
     have nm414 := ninN nm380 B379.lt (nTurn hat400 (nKeep same))
     have B413 := B379.eff E396 (fun h => nm380 (List.mem_append_left _ (h)))
     have hM415 : Mok (ob (.slice a398 ((out ++ [(⟨((⟨[], [], (List.replicate 8 [])⟩ : Pg)).href, ((⟨[], [], (List.replicate 8 [])⟩ : Pg)).uuid, ((⟨[], [], (List.replicate 8 [])⟩ : Pg)).shadow⟩ : Pg)]).length) cap399) ++ ([b101] ++ M)) w394 := hM392.step E396 (nTurn (fun b hb => .inr ((fun b hb => (O395.lt b hb).2) b hb)) (nKeep same))
     refine ⟨hS402, ?_⟩
     refine D.all [11] (by kernel_rfl) (by kernel_rfl) ⟨?_, trivial⟩
     refine L.store 0 [.slice a398 ((out ++ [(⟨((⟨[], [], (List.replicate 8 [])⟩ : Pg)).href, ((⟨[], [], (List.replicate 8 [])⟩ : Pg)).uuid, ((⟨[], [], (List.replicate 8 [])⟩ : Pg)).shadow⟩ : Pg)]).length) cap399] [.slice a398 ((out ++ [(⟨((⟨[], [], (List.replicate 8 [])⟩ : Pg)).href, ((⟨[], [], (List.replicate 8 [])⟩ : Pg)).uuid, ((⟨[], [], (List.replicate 8 [])⟩ : Pg)).shadow⟩ : Pg)]).length) cap399] (by kernel_rfl : lookAt _ _ _ _ = some ((Op.store 27 (Operand.tmp 3) (Operand.tmp 31)), none)) (by kernel_rfl) B407 (by kernel_rfl) (by kernel_rfl) (by kernel_rfl) (one_of_all (by kernel_rfl)) (by kernel_rfl) ?_
     intro w416 E417 hz418 B419
     have hE420 := hE401.and1 E417 (by omega)
     have := E417.size
     have hS421 := hS402.andIn E417 (in1 (by simp))
     have Q422 := Q404.step same E417 (notin1 (by omega)) (in1 (List.mem_append_right _ (List.mem_append_left _ (List.mem_singleton.2 rfl))))
     have Q423 := Q405.step same E417 (notin1 (by omega)) (in1 (List.mem_append_right _ (List.mem_append_left _ (List.mem_singleton.2 rfl))))
     have B424 := B406.eff1 E417 (by omega)
     have B425 := B408.eff1 E417 (by omega)
     have R426 := R410.step same E417 (in1 (List.mem_append_right _ (List.mem_append_left _ (List.mem_singleton.2 rfl))))
     have A427 := A411.step same E417 (in1 (List.mem_append_right _ (List.mem_append_left _ (List.mem_singleton.2 rfl))))
     have C428 := Kd.step (Kd.array 8 [] (Kd.slice Kd.str) rfl) C412 same E417 (in1 (List.mem_append_right _ (List.mem_append_left _ (List.mem_singleton.2 rfl))))
     have B429 := B413.eff1 E417 (by omega)
     have O430 := O395.step same E417 (in1 (List.mem_append_left _ (List.mem_singleton.2 rfl)))
     have hM431 := hM415.eff E417
     refine ⟨hS421, ?_⟩
     refine D.done _ (by kernel_rfl) ?_
     show S _ _ _ c24_n23 _ _ _ _
     refine S.reg (ops := o24_n23) (js := [0, 1]) (by kernel_rfl) (by kernel_rfl) ?_
     refine L.runU [0] [1] [(32, .int .i64 (IntKind.i64.wrap (((k : Nat) : Int) + 1)))] (by kernel_rfl) (by kernel_rfl) ?_
     refine X.re64 (G := fun σ => L _ _ _ _ _ _ σ _ _) (d := 32) (((k : Nat) : Int) + 1) (((k + 1 : Nat) : Int)) (by kernel_rfl) (by omega) ?_
     refine L.runU [1] [] [(17, .int .i64 (((k + 1 : Nat) : Int)))] (by kernel_rfl) (by kernel_rfl) ?_
     refine L.done ?_
     show ∃ m', m' < _ ∧ _
     refine ⟨ks138.length - (k + 1), ?_, ⟨k + 1, a398, cap399, out ++ [(⟨((⟨[], [], (List.replicate 8 [])⟩ : Pg)).href, ((⟨[], [], (List.replicate 8 [])⟩ : Pg)).uuid, ((⟨[], [], (List.replicate 8 [])⟩ : Pg)).shadow⟩ : Pg)], rfl, (by omega), (by rw [hout]; exact cardF_snoc hx181 (by simp only [cardF, hg199] <;> rfl)), (by omega), (by (simp only [List.length_cons, List.length_nil, List.length_append, List.length_take, List.length_drop, List.length_map, List.length_replicate] <;> omega)), Q422, Q423, B424, B419, B425, nm409, R426, O430, hM431, hE420, (by omega), rfl, _, Holds.eq (l := [(0, .pointer (some ⟨pb, 0, none⟩)), (2, .nilFunc), (3, .pointer (some ⟨b101, 0, none⟩)), (15, .slice a136 ks138.length cap137), (16, .int .i64 (((ks138.length : Nat) : Int))), (17, .int .i64 (((k + 1 : Nat) : Int)))]) ⟨by kernel_rfl, by kernel_rfl, by kernel_rfl, by kernel_rfl, by kernel_rfl, by kernel_rfl, trivial⟩⟩⟩
     omega
  ·obtain ⟨cs433, R434, look432⟩ := look_some (P := Tryz.prog) (t := 53) (kt := 9) (et := 40) (zv := .agg #[sv [], sv [], .slice none 0 0, .slice none 0 0, .slice none 0 0, .slice none 0 0, .slice none 0 0, .slice none 0 0, .slice none 0 0, .slice none 0 0]) hg199 Q189 (by kernel_rfl) (by kernel_rfl) (fun _ => by kernel_rfl)
   obtain ⟨_, _, rfl, ⟨rfl, hl435⟩, ⟨_, _, rfl, ⟨rfl, hl436⟩, ⟨v437, v438, v439, v440, v441, v442, v443, v444, rfl, C445⟩⟩⟩ := R434
   have := Q189.lt
   refine D.take 7 (.agg #[sv y200.href, sv y200.uuid, v437, v438, v439, v440, v441, v442, v443, v444]) (some 28) #[false, true, true, true, true, true, true, true, false, false, false, false] (by kernel_rfl) (by kernel_rfl) (by kernel_rfl) (fun _ _ _ _ h => LeaveP.put h (by kernel_rfl)) (.val (n := 34) (by kernel_rfl : lookAt _ _ _ _ = some ((Op.lookup 53 (Operand.tmp 26) (Operand.tmp 27) Bool.false), some 28)) (by intro c e; cases e) (fun _ h => look432 _ _ _ _ false _ (by kernel_rfl) (by kernel_rfl) (h.same _ Q189.lt (nin (fun h => absurd (O195.lt _ h).1 (by omega)) (notin1 (by omega)))))) hS187 ?_
   refine D.all [0, 8] (by kernel_rfl) (by kernel_rfl) ⟨?_, ?_, trivial⟩
   ·refine L.val (.slice a159 out.length cap160) (by kernel_rfl : lookAt _ _ _ _ = some ((Op.load 27 (Operand.tmp 3)), some 21)) (by intro c e; cases e) (rx_load 0 (.slice a159 out.length cap160) (B192.cells) (by kernel_rfl) (by kernel_rfl)) ?_
    refine ⟨hS187, ?_⟩
    refine D.all [8] (by kernel_rfl) (by kernel_rfl) ⟨?_, trivial⟩
    refine L.call (f := 41) (by kernel_rfl : lookAt _ _ _ _ = some ((Op.call { callee := (Callee.value (Operand.func 41)), args := #[(Operand.tmp 28)], argTypes := #[40] }), some 29)) e41 (by kernel_rfl) (copied_ok (ob (.slice a159 out.length cap160) ++ ([b101] ++ M)) [sv y200.href, sv y200.uuid, v437, v438, v439, v440, v441, v442, v443, v444] y200 _ hM197 (⟨[sv y200.href], [sv y200.uuid, v437, v438, v439, v440, v441, v442, v443, v444], rfl, ⟨rfl, by omega⟩, ⟨[sv y200.uuid], [v437, v438, v439, v440, v441, v442, v443, v444], rfl, ⟨rfl, by omega⟩, ⟨_, _, _, _, _, _, _, _, rfl, C445⟩⟩⟩) (hs _ _ hg199)) ?_
    rintro _ w449 E450 ⟨cs446, rfl, R447⟩
    obtain ⟨_, _, rfl, ⟨rfl, hl452⟩, ⟨_, _, rfl, ⟨rfl, hl453⟩, ⟨v454, v455, v456, v457, v458, v459, v460, v461, rfl, C462⟩⟩⟩ := R447
    have hE463 := hE188.and0 E450
    have := E450.size
    have hS464 := hS187.and0 E450
    have Q465 := Q189.step same E450 (by simp) no0
    have Q466 := Q190.step same E450 (by simp) no0
    have B467 := B191.eff0 E450
    have B468 := B192.eff0 E450
    have B469 := B193.eff0 E450
    have R470 := R194.step same E450 no0
    have O471 := O195.step same E450 no0
    have A472 := A196.step same E450 no0
    have C473 := Kd.step (Kd.array 8 [] (Kd.slice Kd.str) rfl) C445 same E450 no0
    have hM474 := hM197.eff E450
    refine ⟨hS464, ?_⟩
    refine D.all [9] (by kernel_rfl) (by kernel_rfl) ⟨?_, trivial⟩
    refine L.newRow (fun b => .slice (some ⟨b, 0, none⟩) 1 1) [sv y200.href, sv y200.uuid, v454, v455, v456, v457, v458, v459, v460, v461] 40 (by kernel_rfl : lookAt _ _ _ _ = some ((Op.buildSlice 27 1 #[(0, (Operand.tmp 29))]), some 30)) (by intro c e; cases e) (fun w => by kernel_rfl) ?_
    intro b475 w476 hs477 hz478 E479 B480
    have nm481 := not_mem_of_ge (b := b475) hM474 (by omega)
    have hE482 := hE463.and0 E479
    have := E479.size
    have hS483 := hS464.and0 E479
    have Q484 := Q465.step same E479 (by simp) no0
    have Q485 := Q466.step same E479 (by simp) no0
    have B486 := B467.eff0 E479
    have B487 := B468.eff0 E479
    have B488 := B469.eff0 E479
    have R489 := R470.step same E479 no0
    have O490 := O471.step same E479 no0
    have A491 := A472.step same E479 no0
    have C492 := Kd.step (Kd.array 8 [] (Kd.slice Kd.str) rfl) C473 same E479 no0
    have C493 := Kd.step (Kd.array 8 [] (Kd.slice Kd.str) rfl) C462 same E479 no0
    have hM494 := hM474.eff E479
    refine ⟨hS483, ?_⟩
    refine D.all [10] (by kernel_rfl) (by kernel_rfl) ⟨?_, trivial⟩
    refine L.append (K := kPg) (e := 40) (base := w.heap.size) (bytes := 224) (M := [b101] ++ M) (v := .slice a159 out.length cap160) (xs := out) (ys := [y200]) (a := some ⟨b475, 0, none⟩) (cap := 1) (by kernel_rfl : lookAt _ _ _ _ = some ((Op.call { callee := (Callee.builtin Builtin.append), args := #[(Operand.tmp 21), (Operand.tmp 30)], argTypes := #[27, 27] }), some 31)) (by kernel_rfl) (by kernel_rfl) (by kernel_rfl) (by kernel_rfl) O490 (Sl.one (K := kPg) (x := y200) B480 nm481 ⟨[sv y200.href], [sv y200.uuid, v454, v455, v456, v457, v458, v459, v460, v461], rfl, ⟨rfl, by omega⟩, ⟨[sv y200.uuid], [v454, v455, v456, v457, v458, v459, v460, v461], rfl, ⟨rfl, by omega⟩, ⟨_, _, _, _, _, _, _, _, rfl, C493⟩⟩⟩) (hM494.sub (sDrop sSame)) (by (simp only [List.length_cons, List.length_nil, List.length_append, List.length_take, List.length_drop, List.length_map, List.length_replicate] <;> omega)) (by omega) hE482.size ?_
    intro v495 w496 O497 E498 hat499
    obtain ⟨a500, cap501, rfl⟩ := O497.slice
    have hat502 := hatN hat499
    have hE503 := hE482.andMem E498 (memOwn O490 (Nat.le_refl _))
    have := E498.size
    have hS504 := hS483.andMem E498 mm198
    have mm505 := memN (base := w184.heap.size) mm198 hat502 (by omega)
    have Q506 := Q484.step (nTurn hat502 (nKeep same)) E498 (fun h => absurd (O490.lt _ h).1 (by omega)) (fun _ h => List.mem_append_left _ (h))
    have Q507 := Q485.step (nTurn hat502 (nKeep same)) E498 (fun h => absurd (O490.lt _ h).1 (by omega)) (fun _ h => List.mem_append_left _ (h))
    have B508 := B486.eff E498 (fun h => absurd (O490.lt _ h).1 (by omega))
    have B509 := B487.eff E498 (O490.apart (List.mem_append_left _ (List.mem_singleton.2 rfl)))
    have nm511 := ninN nm170 B488.lt (nTurn hat502 (nKeep same))
    have B510 := B488.eff E498 (fun h => nm170 (List.mem_append_left _ (h)))
    have R512 := R489.step (nTurn hat502 (nKeep same)) E498 (fun _ h => List.mem_append_left _ (h))
    have A513 := A491.step (nTurn hat502 (nKeep same)) E498 (fun _ h => List.mem_append_left _ (h))
    have C514 := Kd.step (Kd.array 8 [] (Kd.slice Kd.str) rfl) C492 (nTurn hat502 (nKeep same)) E498 (fun _ h => List.mem_append_left _ (h))
    have C515 := Kd.step (Kd.array 8 [] (Kd.slice Kd.str) rfl) C493 (nTurn hat502 (nKeep same)) E498 (fun _ h => List.mem_append_left _ (h))
    have nm517 := ninN nm481 B480.lt (nTurn hat502 (nKeep same))
    have B516 := B480.eff E498 (fun h => nm481 (List.mem_append_left _ (h)))
    have hM518 : Mok (ob (.slice a500 ((out ++ [y200]).length) cap501) ++ ([b101] ++ M)) w496 := hM494.step E498 (nTurn (fun b hb => .inr ((fun b hb => (O497.lt b hb).2) b hb)) (nKeep same))
    refine ⟨hS504, ?_⟩
    refine D.all [11] (by kernel_rfl) (by kernel_rfl) ⟨?_, trivial⟩
    refine L.store 0 [.slice a500 ((out ++ [y200]).length) cap501] [.slice a500 ((out ++ [y200]).length) cap501] (by kernel_rfl : lookAt _ _ _ _ = some ((Op.store 27 (Operand.tmp 3) (Operand.tmp 31)), none)) (by kernel_rfl) B509 (by kernel_rfl) (by kernel_rfl) (by kernel_rfl) (one_of_all (by kernel_rfl)) (by kernel_rfl) ?_
    intro w519 E520 hz521 B522
    have hE523 := hE503.and1 E520 (by omega)
    have := E520.size
    have hS524 := hS504.andIn E520 (in1 (by simp))
    have Q525 := Q506.step same E520 (notin1 (by omega)) (in1 (List.mem_append_right _ (List.mem_append_left _ (List.mem_singleton.2 rfl))))
    have Q526 := Q507.step same E520 (notin1 (by omega)) (in1 (List.mem_append_right _ (List.mem_append_left _ (List.mem_singleton.2 rfl))))
    have B527 := B508.eff1 E520 (by omega)
    have B528 := B510.eff1 E520 (by omega)
    have R529 := R512.step same E520 (in1 (List.mem_append_right _ (List.mem_append_left _ (List.mem_singleton.2 rfl))))
    have A530 := A513.step same E520 (in1 (List.mem_append_right _ (List.mem_append_left _ (List.mem_singleton.2 rfl))))
    have C531 := Kd.step (Kd.array 8 [] (Kd.slice Kd.str) rfl) C514 same E520 (in1 (List.mem_append_right _ (List.mem_append_left _ (List.mem_singleton.2 rfl))))
    have C532 := Kd.step (Kd.array 8 [] (Kd.slice Kd.str) rfl) C515 same E520 (in1 (List.mem_append_right _ (List.mem_append_left _ (List.mem_singleton.2 rfl))))
    have B533 := B516.eff1 E520 (by omega)
    have O534 := O497.step same E520 (in1 (List.mem_append_left _ (List.mem_singleton.2 rfl)))
    have hM535 := hM518.eff E520
    refine ⟨hS524, ?_⟩
    refine D.done _ (by kernel_rfl) ?_
    show S _ _ _ c24_n23 _ _ _ _
    refine S.reg (ops := o24_n23) (js := [0, 1]) (by kernel_rfl) (by kernel_rfl) ?_
    refine L.runU [0] [1] [(32, .int .i64 (IntKind.i64.wrap (((k : Nat) : Int) + 1)))] (by kernel_rfl) (by kernel_rfl) ?_
    refine X.re64 (G := fun σ => L _ _ _ _ _ _ σ _ _) (d := 32) (((k : Nat) : Int) + 1) (((k + 1 : Nat) : Int)) (by kernel_rfl) (by omega) ?_
    refine L.runU [1] [] [(17, .int .i64 (((k + 1 : Nat) : Int)))] (by kernel_rfl) (by kernel_rfl) ?_
    refine L.done ?_
    show ∃ m', m' < _ ∧ _
    refine ⟨ks138.length - (k + 1), ?_, ⟨k + 1, a500, cap501, out ++ [y200], rfl, (by omega), (by rw [hout]; exact cardF_snoc hx181 (by simp only [cardF, hg199] <;> rfl)), (by omega), (by (simp only [List.length_cons, List.length_nil, List.length_append, List.length_take, List.length_drop, List.length_map, List.length_replicate] <;> omega)), Q525, Q526, B527, B522, B528, nm511, R529, O534, hM535, hE523, (by omega), rfl, _, Holds.eq (l := [(0, .pointer (some ⟨pb, 0, none⟩)), (2, .nilFunc), (3, .pointer (some ⟨b101, 0, none⟩)), (15, .slice a136 ks138.length cap137), (16, .int .i64 (((ks138.length : Nat) : Int))), (17, .int .i64 (((k + 1 : Nat) : Int)))]) ⟨by kernel_rfl, by kernel_rfl, by kernel_rfl, by kernel_rfl, by kernel_rfl, by kernel_rfl, trivial⟩⟩⟩
    omega
   ·refine L.call (f := 41) (by kernel_rfl : lookAt _ _ _ _ = some ((Op.call { callee := (Callee.value (Operand.func 41)), args := #[(Operand.tmp 28)], argTypes := #[40] }), some 29)) e41 (by kernel_rfl) (copied_ok (ob (.slice a159 out.length cap160) ++ ([b101] ++ M)) [sv y200.href, sv y200.uuid, v437, v438, v439, v440, v441, v442, v443, v444] y200 _ hM197 (⟨[sv y200.href], [sv y200.uuid, v437, v438, v439, v440, v441, v442, v443, v444], rfl, ⟨rfl, by omega⟩, ⟨[sv y200.uuid], [v437, v438, v439, v440, v441, v442, v443, v444], rfl, ⟨rfl, by omega⟩, ⟨_, _, _, _, _, _, _, _, rfl, C445⟩⟩⟩) (hs _ _ hg199)) ?_
    rintro _ w539 E540 ⟨cs536, rfl, R537⟩
    obtain ⟨_, _, rfl, ⟨rfl, hl542⟩, ⟨_, _, rfl, ⟨rfl, hl543⟩, ⟨v544, v545, v546, v547, v548, v549, v550, v551, rfl, C552⟩⟩⟩ := R537
    have hE553 := hE188.and0 E540
    have := E540.size
    have hS554 := hS187.and0 E540
    have Q555 := Q189.step same E540 (by simp) no0
    have Q556 := Q190.step same E540 (by simp) no0
    have B557 := B191.eff0 E540
    have B558 := B192.eff0 E540
    have B559 := B193.eff0 E540
    have R560 := R194.step same E540 no0
    have O561 := O195.step same E540 no0
    have A562 := A196.step same E540 no0
    have C563 := Kd.step (Kd.array 8 [] (Kd.slice Kd.str) rfl) C445 same E540 no0
    have hM564 := hM197.eff E540
    refine ⟨hS554, ?_⟩
    refine D.all [0, 9] (by kernel_rfl) (by kernel_rfl) ⟨?_, ?_, trivial⟩
    ·refine L.val (.slice a159 out.length cap160) (by kernel_rfl : lookAt _ _ _ _ = some ((Op.load 27 (Operand.tmp 3)), some 21)) (by intro c e; cases e) (rx_load 0 (.slice a159 out.length cap160) (B558.cells) (by kernel_rfl) (by kernel_rfl)) ?_
     refine ⟨hS554, ?_⟩
     refine D.all [9] (by kernel_rfl) (by kernel_rfl) ⟨?_, trivial⟩
     refine L.newRow (fun b => .slice (some ⟨b, 0, none⟩) 1 1) [sv y200.href, sv y200.uuid, v544, v545, v546, v547, v548, v549, v550, v551] 40 (by kernel_rfl : lookAt _ _ _ _ = some ((Op.buildSlice 27 1 #[(0, (Operand.tmp 29))]), some 30)) (by intro c e; cases e) (fun w => by kernel_rfl) ?_
     intro b565 w566 hs567 hz568 E569 B570
     have nm571 := not_mem_of_ge (b := b565) hM564 (by omega)
     have hE572 := hE553.and0 E569
     have := E569.size
     have hS573 := hS554.and0 E569
     have Q574 := Q555.step same E569 (by simp) no0
     have Q575 := Q556.step same E569 (by simp) no0
     have B576 := B557.eff0 E569
     have B577 := B558.eff0 E569
     have B578 := B559.eff0 E569
     have R579 := R560.step same E569 no0
     have O580 := O561.step same E569 no0
     have A581 := A562.step same E569 no0
     have C582 := Kd.step (Kd.array 8 [] (Kd.slice Kd.str) rfl) C563 same E569 no0
     have C583 := Kd.step (Kd.array 8 [] (Kd.slice Kd.str) rfl) C552 same E569 no0
     have hM584 := hM564.eff E569
     refine ⟨hS573, ?_⟩
     refine D.all [10] (by kernel_rfl) (by kernel_rfl) ⟨?_, trivial⟩
     refine L.append (K := kPg) (e := 40) (base := w.heap.size) (bytes := 224) (M := [b101] ++ M) (v := .slice a159 out.length cap160) (xs := out) (ys := [y200]) (a := some ⟨b565, 0, none⟩) (cap := 1) (by kernel_rfl : lookAt _ _ _ _ = some ((Op.call { callee := (Callee.builtin Builtin.append), args := #[(Operand.tmp 21), (Operand.tmp 30)], argTypes := #[27, 27] }), some 31)) (by kernel_rfl) (by kernel_rfl) (by kernel_rfl) (by kernel_rfl) O580 (Sl.one (K := kPg) (x := y200) B570 nm571 ⟨[sv y200.href], [sv y200.uuid, v544, v545, v546, v547, v548, v549, v550, v551], rfl, ⟨rfl, by omega⟩, ⟨[sv y200.uuid], [v544, v545, v546, v547, v548, v549, v550, v551], rfl, ⟨rfl, by omega⟩, ⟨_, _, _, _, _, _, _, _, rfl, C583⟩⟩⟩) (hM584.sub (sDrop sSame)) (by (simp only [List.length_cons, List.length_nil, List.length_append, List.length_take, List.length_drop, List.length_map, List.length_replicate] <;> omega)) (by omega) hE572.size ?_
     intro v585 w586 O587 E588 hat589
     obtain ⟨a590, cap591, rfl⟩ := O587.slice
     have hat592 := hatN hat589
     have hE593 := hE572.andMem E588 (memOwn O580 (Nat.le_refl _))
     have := E588.size
     have hS594 := hS573.andMem E588 mm198
     have mm595 := memN (base := w184.heap.size) mm198 hat592 (by omega)
     have Q596 := Q574.step (nTurn hat592 (nKeep same)) E588 (fun h => absurd (O580.lt _ h).1 (by omega)) (fun _ h => List.mem_append_left _ (h))
     have Q597 := Q575.step (nTurn hat592 (nKeep same)) E588 (fun h => absurd (O580.lt _ h).1 (by omega)) (fun _ h => List.mem_append_left _ (h))
     have B598 := B576.eff E588 (fun h => absurd (O580.lt _ h).1 (by omega))
     have B599 := B577.eff E588 (O580.apart (List.mem_append_left _ (List.mem_singleton.2 rfl)))
     have nm601 := ninN nm170 B578.lt (nTurn hat592 (nKeep same))
     have B600 := B578.eff E588 (fun h => nm170 (List.mem_append_left _ (h)))
     have R602 := R579.step (nTurn hat592 (nKeep same)) E588 (fun _ h => List.mem_append_left _ (h))
     have A603 := A581.step (nTurn hat592 (nKeep same)) E588 (fun _ h => List.mem_append_left _ (h))
     have C604 := Kd.step (Kd.array 8 [] (Kd.slice Kd.str) rfl) C582 (nTurn hat592 (nKeep same)) E588 (fun _ h => List.mem_append_left _ (h))
     have C605 := Kd.step (Kd.array 8 [] (Kd.slice Kd.str) rfl) C583 (nTurn hat592 (nKeep same)) E588 (fun _ h => List.mem_append_left _ (h))
     have nm607 := ninN nm571 B570.lt (nTurn hat592 (nKeep same))
     have B606 := B570.eff E588 (fun h => nm571 (List.mem_append_left _ (h)))
     have hM608 : Mok (ob (.slice a590 ((out ++ [y200]).length) cap591) ++ ([b101] ++ M)) w586 := hM584.step E588 (nTurn (fun b hb => .inr ((fun b hb => (O587.lt b hb).2) b hb)) (nKeep same))
     refine ⟨hS594, ?_⟩
     refine D.all [11] (by kernel_rfl) (by kernel_rfl) ⟨?_, trivial⟩
     refine L.store 0 [.slice a590 ((out ++ [y200]).length) cap591] [.slice a590 ((out ++ [y200]).length) cap591] (by kernel_rfl : lookAt _ _ _ _ = some ((Op.store 27 (Operand.tmp 3) (Operand.tmp 31)), none)) (by kernel_rfl) B599 (by kernel_rfl) (by kernel_rfl) (by kernel_rfl) (one_of_all (by kernel_rfl)) (by kernel_rfl) ?_
     intro w609 E610 hz611 B612
     have hE613 := hE593.and1 E610 (by omega)
     have := E610.size
     have hS614 := hS594.andIn E610 (in1 (by simp))
     have Q615 := Q596.step same E610 (notin1 (by omega)) (in1 (List.mem_append_right _ (List.mem_append_left _ (List.mem_singleton.2 rfl))))
     have Q616 := Q597.step same E610 (notin1 (by omega)) (in1 (List.mem_append_right _ (List.mem_append_left _ (List.mem_singleton.2 rfl))))
     have B617 := B598.eff1 E610 (by omega)
     have B618 := B600.eff1 E610 (by omega)
     have R619 := R602.step same E610 (in1 (List.mem_append_right _ (List.mem_append_left _ (List.mem_singleton.2 rfl))))
     have A620 := A603.step same E610 (in1 (List.mem_append_right _ (List.mem_append_left _ (List.mem_singleton.2 rfl))))
     have C621 := Kd.step (Kd.array 8 [] (Kd.slice Kd.str) rfl) C604 same E610 (in1 (List.mem_append_right _ (List.mem_append_left _ (List.mem_singleton.2 rfl))))
     have C622 := Kd.step (Kd.array 8 [] (Kd.slice Kd.str) rfl) C605 same E610 (in1 (List.mem_append_right _ (List.mem_append_left _ (List.mem_singleton.2 rfl))))
     have B623 := B606.eff1 E610 (by omega)
     have O624 := O587.step same E610 (in1 (List.mem_append_left _ (List.mem_singleton.2 rfl)))
     have hM625 := hM608.eff E610
     refine ⟨hS614, ?_⟩
     refine D.done _ (by kernel_rfl) ?_
     show S _ _ _ c24_n23 _ _ _ _
     refine S.reg (ops := o24_n23) (js := [0, 1]) (by kernel_rfl) (by kernel_rfl) ?_
     refine L.runU [0] [1] [(32, .int .i64 (IntKind.i64.wrap (((k : Nat) : Int) + 1)))] (by kernel_rfl) (by kernel_rfl) ?_
     refine X.re64 (G := fun σ => L _ _ _ _ _ _ σ _ _) (d := 32) (((k : Nat) : Int) + 1) (((k + 1 : Nat) : Int)) (by kernel_rfl) (by omega) ?_
     refine L.runU [1] [] [(17, .int .i64 (((k + 1 : Nat) : Int)))] (by kernel_rfl) (by kernel_rfl) ?_
     refine L.done ?_
     show ∃ m', m' < _ ∧ _
     refine ⟨ks138.length - (k + 1), ?_, ⟨k + 1, a590, cap591, out ++ [y200], rfl, (by omega), (by rw [hout]; exact cardF_snoc hx181 (by simp only [cardF, hg199] <;> rfl)), (by omega), (by (simp only [List.length_cons, List.length_nil, List.length_append, List.length_take, List.length_drop, List.length_map, List.length_replicate] <;> omega)), Q615, Q616, B617, B612, B618, nm601, R619, O624, hM625, hE613, (by omega), rfl, _, Holds.eq (l := [(0, .pointer (some ⟨pb, 0, none⟩)), (2, .nilFunc), (3, .pointer (some ⟨b101, 0, none⟩)), (15, .slice a136 ks138.length cap137), (16, .int .i64 (((ks138.length : Nat) : Int))), (17, .int .i64 (((k + 1 : Nat) : Int)))]) ⟨by kernel_rfl, by kernel_rfl, by kernel_rfl, by kernel_rfl, by kernel_rfl, by kernel_rfl, trivial⟩⟩⟩
     omega
    ·refine L.newRow (fun b => .slice (some ⟨b, 0, none⟩) 1 1) [sv y200.href, sv y200.uuid, v544, v545, v546, v547, v548, v549, v550, v551] 40 (by kernel_rfl : lookAt _ _ _ _ = some ((Op.buildSlice 27 1 #[(0, (Operand.tmp 29))]), some 30)) (by intro c e; cases e) (fun w => by kernel_rfl) ?_
     intro b626 w627 hs628 hz629 E630 B631
     have nm632 := not_mem_of_ge (b := b626) hM564 (by omega)
     have hE633 := hE553.and0 E630
     have := E630.size
     have hS634 := hS554.and0 E630
     have Q635 := Q555.step same E630 (by simp) no0
     have Q636 := Q556.step same E630 (by simp) no0
     have B637 := B557.eff0 E630
     have B638 := B558.eff0 E630
     have B639 := B559.eff0 E630
     have R640 := R560.step same E630 no0
     have O641 := O561.step same E630 no0
     have A642 := A562.step same E630 no0
     have C643 := Kd.step (Kd.array 8 [] (Kd.slice Kd.str) rfl) C563 same E630 no0
     have C644 := Kd.step (Kd.array 8 [] (Kd.slice Kd.str) rfl) C552 same E630 no0
     have hM645 := hM564.eff E630
     refine ⟨hS634, ?_⟩
     refine D.all [0] (by kernel_rfl) (by kernel_rfl) ⟨?_, trivial⟩
     refine L.val (.slice a159 out.length cap160) (by kernel_rfl : lookAt _ _ _ _ = some ((Op.load 27 (Operand.tmp 3)), some 21)) (by intro c e; cases e) (rx_load 0 (.slice a159 out.length cap160) (B638.cells) (by kernel_rfl) (by kernel_rfl)) ?_
     refine ⟨hS634, ?_⟩
     refine D.all [10] (by kernel_rfl) (by kernel_rfl) ⟨?_, trivial⟩
     refine L.append (K := kPg) (e := 40) (base := w.heap.size) (bytes := 224) (M := [b101] ++ M) (v := .slice a159 out.length cap160) (xs := out) (ys := [y200]) (a := some ⟨b626, 0, none⟩) (cap := 1) (by kernel_rfl : lookAt _ _ _ _ = some ((Op.call { callee := (Callee.builtin Builtin.append), args := #[(Operand.tmp 21), (Operand.tmp 30)], argTypes := #[27, 27] }), some 31)) (by kernel_rfl) (by kernel_rfl) (by kernel_rfl) (by kernel_rfl) O641 (Sl.one (K := kPg) (x := y200) B631 nm632 ⟨[sv y200.href], [sv y200.uuid, v544, v545, v546, v547, v548, v549, v550, v551], rfl, ⟨rfl, by omega⟩, ⟨[sv y200.uuid], [v544, v545, v546, v547, v548, v549, v550, v551], rfl, ⟨rfl, by omega⟩, ⟨_, _, _, _, _, _, _, _, rfl, C644⟩⟩⟩) (hM645.sub (sDrop sSame)) (by (simp only [List.length_cons, List.length_nil, List.length_append, List.length_take, List.length_drop, List.length_map, List.length_replicate] <;> omega)) (by omega) hE633.size ?_
     intro v646 w647 O648 E649 hat650
     obtain ⟨a651, cap652, rfl⟩ := O648.slice
     have hat653 := hatN hat650
     have hE654 := hE633.andMem E649 (memOwn O641 (Nat.le_refl _))
     have := E649.size
     have hS655 := hS634.andMem E649 mm198
     have mm656 := memN (base := w184.heap.size) mm198 hat653 (by omega)
     have Q657 := Q635.step (nTurn hat653 (nKeep same)) E649 (fun h => absurd (O641.lt _ h).1 (by omega)) (fun _ h => List.mem_append_left _ (h))
     have Q658 := Q636.step (nTurn hat653 (nKeep same)) E649 (fun h => absurd (O641.lt _ h).1 (by omega)) (fun _ h => List.mem_append_left _ (h))
     have B659 := B637.eff E649 (fun h => absurd (O641.lt _ h).1 (by omega))
     have B660 := B638.eff E649 (O641.apart (List.mem_append_left _ (List.mem_singleton.2 rfl)))
     have nm662 := ninN nm170 B639.lt (nTurn hat653 (nKeep same))
     have B661 := B639.eff E649 (fun h => nm170 (List.mem_append_left _ (h)))
     have R663 := R640.step (nTurn hat653 (nKeep same)) E649 (fun _ h => List.mem_append_left _ (h))
     have A664 := A642.step (nTurn hat653 (nKeep same)) E649 (fun _ h => List.mem_append_left _ (h))
     have C665 := Kd.step (Kd.array 8 [] (Kd.slice Kd.str) rfl) C643 (nTurn hat653 (nKeep same)) E649 (fun _ h => List.mem_append_left _ (h))
     have C666 := Kd.step (Kd.array 8 [] (Kd.slice Kd.str) rfl) C644 (nTurn hat653 (nKeep same)) E649 (fun _ h => List.mem_append_left _ (h))
     have nm668 := ninN nm632 B631.lt (nTurn hat653 (nKeep same))
     have B667 := B631.eff E649 (fun h => nm632 (List.mem_append_left _ (h)))
     have hM669 : Mok (ob (.slice a651 ((out ++ [y200]).length) cap652) ++ ([b101] ++ M)) w647 := hM645.step E649 (nTurn (fun b hb => .inr ((fun b hb => (O648.lt b hb).2) b hb)) (nKeep same))
     refine ⟨hS655, ?_⟩
     refine D.all [11] (by kernel_rfl) (by kernel_rfl) ⟨?_, trivial⟩
     refine L.store 0 [.slice a651 ((out ++ [y200]).length) cap652] [.slice a651 ((out ++ [y200]).length) cap652] (by kernel_rfl : lookAt _ _ _ _ = some ((Op.store 27 (Operand.tmp 3) (Operand.tmp 31)), none)) (by kernel_rfl) B660 (by kernel_rfl) (by kernel_rfl) (by kernel_rfl) (one_of_all (by kernel_rfl)) (by kernel_rfl) ?_
     intro w670 E671 hz672 B673
     have hE674 := hE654.and1 E671 (by omega)
     have := E671.size
     have hS675 := hS655.andIn E671 (in1 (by simp))
     have Q676 := Q657.step same E671 (notin1 (by omega)) (in1 (List.mem_append_right _ (List.mem_append_left _ (List.mem_singleton.2 rfl))))
     have Q677 := Q658.step same E671 (notin1 (by omega)) (in1 (List.mem_append_right _ (List.mem_append_left _ (List.mem_singleton.2 rfl))))
     have B678 := B659.eff1 E671 (by omega)
     have B679 := B661.eff1 E671 (by omega)
     have R680 := R663.step same E671 (in1 (List.mem_append_right _ (List.mem_append_left _ (List.mem_singleton.2 rfl))))
     have A681 := A664.step same E671 (in1 (List.mem_append_right _ (List.mem_append_left _ (List.mem_singleton.2 rfl))))
     have C682 := Kd.step (Kd.array 8 [] (Kd.slice Kd.str) rfl) C665 same E671 (in1 (List.mem_append_right _ (List.mem_append_left _ (List.mem_singleton.2 rfl))))
     have C683 := Kd.step (Kd.array 8 [] (Kd.slice Kd.str) rfl) C666 same E671 (in1 (List.mem_append_right _ (List.mem_append_left _ (List.mem_singleton.2 rfl))))
     have B684 := B667.eff1 E671 (by omega)
     have O685 := O648.step same E671 (in1 (List.mem_append_left _ (List.mem_singleton.2 rfl)))
     have hM686 := hM669.eff E671
     refine ⟨hS675, ?_⟩
     refine D.done _ (by kernel_rfl) ?_
     show S _ _ _ c24_n23 _ _ _ _
     refine S.reg (ops := o24_n23) (js := [0, 1]) (by kernel_rfl) (by kernel_rfl) ?_
     refine L.runU [0] [1] [(32, .int .i64 (IntKind.i64.wrap (((k : Nat) : Int) + 1)))] (by kernel_rfl) (by kernel_rfl) ?_
     refine X.re64 (G := fun σ => L _ _ _ _ _ _ σ _ _) (d := 32) (((k : Nat) : Int) + 1) (((k + 1 : Nat) : Int)) (by kernel_rfl) (by omega) ?_
     refine L.runU [1] [] [(17, .int .i64 (((k + 1 : Nat) : Int)))] (by kernel_rfl) (by kernel_rfl) ?_
     refine L.done ?_
     show ∃ m', m' < _ ∧ _
     refine ⟨ks138.length - (k + 1), ?_, ⟨k + 1, a651, cap652, out ++ [y200], rfl, (by omega), (by rw [hout]; exact cardF_snoc hx181 (by simp only [cardF, hg199] <;> rfl)), (by omega), (by (simp only [List.length_cons, List.length_nil, List.length_append, List.length_take, List.length_drop, List.length_map, List.length_replicate] <;> omega)), Q676, Q677, B678, B673, B679, nm662, R680, O685, hM686, hE674, (by omega), rfl, _, Holds.eq (l := [(0, .pointer (some ⟨pb, 0, none⟩)), (2, .nilFunc), (3, .pointer (some ⟨b101, 0, none⟩)), (15, .slice a136 ks138.length cap137), (16, .int .i64 (((ks138.length : Nat) : Int))), (17, .int .i64 (((k + 1 : Nat) : Int)))]) ⟨by kernel_rfl, by kernel_rfl, by kernel_rfl, by kernel_rfl, by kernel_rfl, by kernel_rfl, trivial⟩⟩⟩
     omega
 ·refine S.exit (id := 0) (by kernel_rfl) ?_
  show S _ _ _ c24_1_1_1 _ _ _ _
  refine S.seq (x := c24_n26) (y := c24_n27) (by kernel_rfl) ?_
  refine S.reg (ops := o24_n26) (js := [0, 1]) (by kernel_rfl) (by kernel_rfl) ?_
  refine L.runU [0, 1] [] [(33, .func (.func 49) #[] #[.pointer (some ⟨b101, 0, none⟩)]), (2, .func (.func 49) #[] #[.pointer (some ⟨b101, 0, none⟩)])] (by kernel_rfl) (by kernel_rfl) ?_
  refine L.done ?_
  show S _ _ _ c24_n27 _ _ _ _
  refine S.ret (by kernel_rfl) ?_
  show Leave _ _ _ _ _ _ _ _
  refine Leave.ret1 (x := .tmp 2) (.func (.func 49) #[] #[.pointer (some ⟨b101, 0, none⟩)]) (by kernel_rfl) (.ofT (by kernel_rfl)) ?_
  have R687 := O172.sl (by omega)
  have R688 : Sl kPg M w161 a159 out := R687.sub (sDrop sSame)
  have hx : out = allF l1 := by rw [allF, ← hks139, hout, List.take_of_length_le (by omega)]
  exact ⟨_, rfl, hE174, b101, a159, cap160, rfl, hx ▸ F168, hx ▸ R688, by omega⟩
end Go.Proofs.YtjleeadiadpiaaaGreatDoor
namespace Go.Proofs.YtjleeadiadpiaaaGreatDoor
open Go Go.Fx Go.RowKit
theorem ext150 (x : Value) (w : World) : (callFunc 150 #[x]).run Tryz.prog w = .ok (.value x) w := by kernel_rfl
noncomputable def c126 : Code := bodyOf Tryz.f126
noncomputable def c126_0 : Code := kid 0 c126
noncomputable def o126_0 : Array Oper := regOps c126_0
noncomputable def c126_1 : Code := kid 1 c126
noncomputable def c126_1_0 : Code := kid 0 c126_1
noncomputable def o126_1_0 : Array Oper := regOps c126_1_0
noncomputable def c126_1_1 : Code := kid 1 c126_1
set_option maxHeartbeats 400000 in
theorem cc_fresh (b : Nat) (y : Value) (w : World) (hB : Blk w b [.pointer none, y] 142) : Calls Tryz.prog 126 #[.pointer (some ⟨b, 0, none⟩)] w (RetW [b] w fun v w' => v = .tuple #[] ∧ Blk w' b [.pointer (some ⟨b, 0, none⟩), y] 142) := by
  refine calls_of_S (n := 20) (c := c126) Tryz.func126 (by kernel_rfl) (by kernel_rfl) (Nat.le_of_ble_eq_true (by kernel_rfl)) ?_
  have := hB.lt
  have hE0 : Eff [b] w w := Eff.refl _ _
  refine S.seq (x := c126_0) (y := c126_1) (by kernel_rfl) ?_
  refine S.reg (ops := o126_0) (js := [0, 1, 2, 3, 4]) (by kernel_rfl) (by kernel_rfl) ?_
  refine L.runU [0, 1, 2] [3, 4] [(2, .pointer (some ⟨b, 0, none⟩)), (3, .pointer (some ⟨b, 0, none⟩)), (4, .pointer (some ⟨b, 0, none⟩))] (by kernel_rfl) (by kernel_rfl) ?_
  refine L.val (.pointer none) (by kernel_rfl : lookAt _ _ _ _ = some ((Op.load 140 (Operand.tmp 4)), some 5)) (by intro c e; cases e) (rx_load 0 (.pointer none) (hB.cells) (by kernel_rfl) (by kernel_rfl)) ?_
  refine L.runU [4] [] [(6, .bool true)] (by kernel_rfl) (by kernel_rfl) ?_
  refine L.done ?_
  show S _ _ _ c126_1 _ _ _ _
  refine S.condT (o := (Operand.tmp 6)) (x := c126_1_0) (y := c126_1_1) (by kernel_rfl) (by kernel_rfl) ?_
  refine S.reg (ops := o126_1_0) (js := [0, 1, 2, 3, 4, 5, 6, 7]) (by kernel_rfl) (by kernel_rfl) ?_
  refine L.runU [0, 1] [2, 3, 4, 5, 6, 7] [(7, .pointer (some ⟨b, 0, none⟩)), (8, .pointer (some ⟨b, 0, none⟩))] (by kernel_rfl) (by kernel_rfl) ?_
  refine L.val (.pointer (some ⟨b, 0, none⟩)) (by kernel_rfl : lookAt _ _ _ _ = some ((Op.convert 140 203 (Operand.tmp 8)), some 9)) (by intro c e; cases e) (rx_toUnsafe (t := 142) (e := 142) (sz := 2) (b := b) (off := 0) (cs := [.pointer none, y]) (by kernel_rfl) (by kernel_rfl) (by kernel_rfl) (by kernel_rfl) (by decide) hB (by simp)) ?_
  refine L.extern (f := 150) (.pointer (some ⟨b, 0, none⟩)) (by kernel_rfl : lookAt _ _ _ _ = some ((Op.call { callee := (Callee.value (Operand.func 150)), args := #[(Operand.tmp 9)], argTypes := #[203] }), some 10)) (by kernel_rfl) (ext150 _ _) ?_
  refine L.val (.pointer (some ⟨b, 0, none⟩)) (by kernel_rfl : lookAt _ _ _ _ = some ((Op.convert 203 140 (Operand.tmp 10)), some 11)) (by intro c e; cases e) (rx_fromUnsafe (u := 142) (e := 142) (b := b) (off := 0) (cs := [.pointer none, y]) (by kernel_rfl) (by kernel_rfl) (by kernel_rfl) (by kernel_rfl) hB (by kernel_rfl)) ?_
  refine L.runU [5, 6] [7] [(12, .pointer (some ⟨b, 0, none⟩)), (13, .pointer (some ⟨b, 0, none⟩))] (by kernel_rfl) (by kernel_rfl) ?_
  refine L.store 0 [.pointer (some ⟨b, 0, none⟩)] [.pointer (some ⟨b, 0, none⟩), y] (by kernel_rfl : lookAt _ _ _ _ = some ((Op.store 140 (Operand.tmp 13) (Operand.tmp 11)), none)) (by kernel_rfl) hB (by kernel_rfl) (by kernel_rfl) (by kernel_rfl) (one_of_all (by kernel_rfl)) (by kernel_rfl) ?_
  intro w101 E102 hz103 B104
  have hE105 := hE0.andIn E102 (in1 (by simp))
  have := E102.size
  refine L.done ?_
  show Leave _ _ _ _ _ _ _ _
  refine Leave.ret0 (by kernel_rfl) ?_
  exact ⟨_, rfl, hE105, rfl, B104⟩
noncomputable def c126b : Code := bodyOf Tryz.f126
noncomputable def c126b_0 : Code := kid 0 c126b
noncomputable def o126b_0 : Array Oper := regOps c126b_0
noncomputable def c126b_1 : Code := kid 1 c126b
noncomputable def c126b_1_0 : Code := kid 0 c126b_1
noncomputable def c126b_1_1 : Code := kid 1 c126b_1
noncomputable def c126b_1_1_0 : Code := kid 0 c126b_1_1
noncomputable def o126b_1_1_0 : Array Oper := regOps c126b_1_1_0
noncomputable def c126b_1_1_1 : Code := kid 1 c126b_1_1
noncomputable def c126b_n7 : Code := kid 0 c126b_1_1_1
noncomputable def c126b_n8 : Code := kid 1 c126b_1_1_1
set_option maxHeartbeats 400000 in
theorem cc_used (b : Nat) (y : Value) (w : World) (hB : Blk w b [.pointer (some ⟨b, 0, none⟩), y] 142) : Calls Tryz.prog 126 #[.pointer (some ⟨b, 0, none⟩)] w (RetW [b] w fun v w' => v = .tuple #[] ∧ Blk w' b [.pointer (some ⟨b, 0, none⟩), y] 142) := by
  refine calls_of_S (n := 20) (c := c126b) Tryz.func126 (by kernel_rfl) (by kernel_rfl) (Nat.le_of_ble_eq_true (by kernel_rfl)) ?_
  have := hB.lt
  have hE0 : Eff [b] w w := Eff.refl _ _
  refine S.seq (x := c126b_0) (y := c126b_1) (by kernel_rfl) ?_
  refine S.reg (ops := o126b_0) (js := [0, 1, 2, 3, 4]) (by kernel_rfl) (by kernel_rfl) ?_
  refine L.runU [0, 1, 2] [3, 4] [(2, .pointer (some ⟨b, 0, none⟩)), (3, .pointer (some ⟨b, 0, none⟩)), (4, .pointer (some ⟨b, 0, none⟩))] (by kernel_rfl) (by kernel_rfl) ?_
  refine L.val (.pointer (some ⟨b, 0, none⟩)) (by kernel_rfl : lookAt _ _ _ _ = some ((Op.load 140 (Operand.tmp 4)), some 5)) (by intro c e; cases e) (rx_load 0 (.pointer (some ⟨b, 0, none⟩)) (hB.cells) (by kernel_rfl) (by kernel_rfl)) ?_
  refine L.runU [4] [] [(6, .bool false)] (by kernel_rfl) (by kernel_rfl) ?_
  refine L.done ?_
  show S _ _ _ c126b_1 _ _ _ _
  refine S.condF (o := (Operand.tmp 6)) (x := c126b_1_0) (y := c126b_1_1) (by kernel_rfl) (by kernel_rfl) ?_
  refine S.seq (x := c126b_1_1_0) (y := c126b_1_1_1) (by kernel_rfl) ?_
  refine S.reg (ops := o126b_1_1_0) (js := [0, 1, 2, 3, 4, 5]) (by kernel_rfl) (by kernel_rfl) ?_
  refine L.runU [0, 1, 2] [3, 4, 5] [(14, .pointer (some ⟨b, 0, none⟩)), (15, .pointer (some ⟨b, 0, none⟩)), (16, .pointer (some ⟨b, 0, none⟩))] (by kernel_rfl) (by kernel_rfl) ?_
  refine L.val (.pointer (some ⟨b, 0, none⟩)) (by kernel_rfl : lookAt _ _ _ _ = some ((Op.load 140 (Operand.tmp 16)), some 17)) (by intro c e; cases e) (rx_load 0 (.pointer (some ⟨b, 0, none⟩)) (hB.cells) (by kernel_rfl) (by kernel_rfl)) ?_
  refine L.runU [4] [5] [(18, .pointer (some ⟨b, 0, none⟩))] (by kernel_rfl) (by kernel_rfl) ?_
  refine L.val (.bool false) (by kernel_rfl : lookAt _ _ _ _ = some ((Op.binOp BinOp.neq 140 (Operand.tmp 17) (Operand.tmp 18) 140), some 19)) (by intro c e; cases e) (rx_ptrNeqSame (e := 142) ⟨b, 0, none⟩ (by kernel_rfl) (by kernel_rfl) (by kernel_rfl) (by kernel_rfl)) ?_
  refine L.done ?_
  show S _ _ _ c126b_1_1_1 _ _ _ _
  refine S.condF (o := (Operand.tmp 19)) (x := c126b_n7) (y := c126b_n8) (by kernel_rfl) (by kernel_rfl) ?_
  refine S.skip (by kernel_rfl) ?_
  show Leave _ _ _ _ _ _ _ _
  refine Leave.ret0 (by kernel_rfl) ?_
  exact ⟨_, rfl, hE0, rfl, hB⟩
end Go.Proofs.YtjleeadiadpiaaaGreatDoor
namespace Go.Proofs.YtjleeadiadpiaaaGreatDoor
open Go Go.Fx Go.RowKit
theorem cc_any (b : Nat) (p y : Value) (w : World) (hp : p = .pointer none ∨ p = .pointer (some ⟨b, 0, none⟩)) (hB : Blk w b [p, y] 142) : Calls Tryz.prog 126 #[.pointer (some ⟨b, 0, none⟩)] w (RetW [b] w fun v w' => v = .tuple #[] ∧ Blk w' b [.pointer (some ⟨b, 0, none⟩), y] 142) := by
 rcases hp with rfl | rfl
 ·exact cc_fresh b y w hB
 ·exact cc_used b y w hB
noncomputable def c90 : Code := bodyOf Tryz.f90
noncomputable def c90_0 : Code := kid 0 c90
noncomputable def o90_0 : Array Oper := regOps c90_0
noncomputable def c90_1 : Code := kid 1 c90
noncomputable def c90_1_0 : Code := kid 0 c90_1
noncomputable def o90_1_0 : Array Oper := regOps c90_1_0
noncomputable def c90_1_1 : Code := kid 1 c90_1
noncomputable def c90_1_1_0 : Code := kid 0 c90_1_1
noncomputable def o90_1_1_0 : Array Oper := regOps c90_1_1_0
noncomputable def c90_1_1_1 : Code := kid 1 c90_1_1
noncomputable def c90_n7 : Code := kid 0 c90_1_1_1
noncomputable def o90_n7 : Array Oper := regOps c90_n7
noncomputable def c90_n8 : Code := kid 1 c90_1_1_1
set_option maxHeartbeats 400000 in
theorem wstr_ok (M : List Nat) (b base : Nat) (y : Value) (a : Option Addr) (cap : Nat) (l : Str) (s : Str) (w : World) (hM : Mok M w) (hb : b ∈ M) (hB : Blk w b [y, .slice a l.length cap] 142) (hy : y = .pointer none ∨ y = .pointer (some ⟨b, 0, none⟩)) (hO : Own Kd.byte 5 base M w (.slice a l.length cap) l) (hbase : base ≤ w.heap.size) (hlen : l.length + s.length ≤ 140737488355328) : Calls Tryz.prog 90 #[.pointer (some ⟨b, 0, none⟩), sv s] w (RetW (ob (.slice a l.length cap) ++ [b]) w fun v w' => v = .tuple #[.int .i64 (s.length : Int), .nilIface] ∧ ∃ a' cap', Blk w' b [.pointer (some ⟨b, 0, none⟩), .slice a' (l ++ s).length cap'] 142 ∧ Own Kd.byte 5 base M w' (.slice a' (l ++ s).length cap') (l ++ s) ∧ ∀ x, x ∈ ob (.slice a' (l ++ s).length cap') → x ∈ ob (.slice a l.length cap) ∨ w.heap.size ≤ x) := by
 refine calls_of_S (n := 19) (c := c90) Tryz.func90 (by kernel_rfl) (by kernel_rfl) (Nat.le_of_ble_eq_true (by kernel_rfl)) ?_
 have := hB.lt
 have hM0 : Mok (ob (.slice a l.length cap) ++ M) w := fun x hx => (List.mem_append.1 hx).elim (fun h => (hO.lt x h).2) (hM x)
 have hm0 : ∀ x, x ∈ ob (.slice a l.length cap) → x ∈ (ob (.slice a l.length cap) ++ [b]) ∨ w.heap.size ≤ x := fun x hx => .inl (by simp [hx])
 have hE0 : Eff (ob (.slice a l.length cap) ++ [b]) w w := Eff.refl _ _
 refine S.seq (x := c90_0) (y := c90_1) (by kernel_rfl) ?_
 refine S.reg (ops := o90_0) (js := [0, 1]) (by kernel_rfl) (by kernel_rfl) ?_
 refine L.runU [0, 1] [] [(4, .int .i64 0), (5, .nilIface)] (by kernel_rfl) (by kernel_rfl) ?_
 refine L.done ?_
 show S _ _ _ c90_1 _ _ _ _
 refine S.seq (x := c90_1_0) (y := c90_1_1) (by kernel_rfl) ?_
 refine S.reg (ops := o90_1_0) (js := [0, 1]) (by kernel_rfl) (by kernel_rfl) ?_
 refine L.runU [0] [1] [(6, .pointer (some ⟨b, 0, none⟩))] (by kernel_rfl) (by kernel_rfl) ?_
 refine L.call (f := 126) (by kernel_rfl : lookAt _ _ _ _ = some ((Op.call { callee := (Callee.value (Operand.func 126)), args := #[(Operand.tmp 6)], argTypes := #[140] }), some 7)) e126 (by kernel_rfl) (cc_any b (y) (.slice a l.length cap) _ hy hB) ?_
 rintro _ w101 E102 ⟨rfl, B103⟩
 have hE108 := hE0.andIn E102 (in1 (by simp))
 have := E102.size
 have O109 := hO.step same E102 (in1 (by simp [*]))
 have hM110 := hM0.eff E102
 refine L.done ?_
 show S _ _ _ c90_1_1 _ _ _ _
 refine S.seq (x := c90_1_1_0) (y := c90_1_1_1) (by kernel_rfl) ?_
 refine S.reg (ops := o90_1_1_0) (js := [0, 1, 2, 3, 4, 5, 6, 7, 8, 9]) (by kernel_rfl) (by kernel_rfl) ?_
 refine L.runU [0, 1, 2, 3] [4, 5, 6, 7, 8, 9] [(8, .pointer (some ⟨b, 0, none⟩)), (9, .pointer (some ⟨b, 0, none⟩)), (10, .pointer (some ⟨b, 0, none⟩)), (11, .pointer (some ⟨b, 1, none⟩))] (by kernel_rfl) (by kernel_rfl) ?_
 refine L.val (.slice a l.length cap) (by kernel_rfl : lookAt _ _ _ _ = some ((Op.load 128 (Operand.tmp 11)), some 12)) (by intro c e; cases e) (rx_load 1 (.slice a l.length cap) (B103.cells) (by kernel_rfl) (by kernel_rfl)) ?_
 refine L.runU [5] [6, 7, 8, 9] [(13, sv s)] (by kernel_rfl) (by kernel_rfl) ?_
 refine L.appendStr (e := 5) (base := base) (M := M) (v := .slice a l.length cap) (l := l) (y := s) (by kernel_rfl : lookAt _ _ _ _ = some ((Op.call { callee := (Callee.builtin Builtin.append), args := #[(Operand.tmp 12), (Operand.tmp 13)], argTypes := #[128, 9] }), some 14)) (by kernel_rfl) (by kernel_rfl) (by kernel_rfl) (by kernel_rfl) (by kernel_rfl) O109 (hM110.sub (sDrop sSame)) (by omega) (by omega) ?_
 intro v111 w112 O113 E114 hat115
 obtain ⟨a116, cap117, rfl⟩ := O113.slice
 have hat118 := hatN hat115
 have hE119 := hE108.andMem E114 hm0
 have := E114.size
 have mm120 := memN (base := w.heap.size) hm0 hat118 (by omega)
 have B121 := B103.eff E114 (O109.apart (by simp [*]))
 have hM122 : Mok (ob (.slice a116 ((l ++ s).length) cap117) ++ M) w112 := hM110.step E114 (nTurn (fun b hb => .inr ((fun b hb => (O113.lt b hb).2) b hb)) same)
 have hat : ∀ x, x ∈ ob (.slice a116 ((l ++ s).length) cap117) → x ∈ ob (.slice a l.length cap) ∨ w.heap.size ≤ x := fun x hx => (hat118 x hx).imp id (fun h => by omega)
 refine L.runU [7, 8] [9] [(15, .pointer (some ⟨b, 0, none⟩)), (16, .pointer (some ⟨b, 1, none⟩))] (by kernel_rfl) (by kernel_rfl) ?_
 refine L.store 1 [.slice a116 ((l ++ s).length) cap117] [.pointer (some ⟨b, 0, none⟩), .slice a116 ((l ++ s).length) cap117] (by kernel_rfl : lookAt _ _ _ _ = some ((Op.store 128 (Operand.tmp 16) (Operand.tmp 14)), none)) (by kernel_rfl) B121 (by kernel_rfl) (by kernel_rfl) (by kernel_rfl) (one_of_all (by kernel_rfl)) (by kernel_rfl) ?_
 intro w123 E124 hz125 B126
 have hE127 := hE119.andIn E124 (in1 (by simp))
 have := E124.size
 have O128 := O113.step same E124 (in1 (by simp [*]))
 have hM129 := hM122.eff E124
 refine L.done ?_
 show S _ _ _ c90_1_1_1 _ _ _ _
 refine S.seq (x := c90_n7) (y := c90_n8) (by kernel_rfl) ?_
 refine S.reg (ops := o90_n7) (js := [0, 1, 2, 3]) (by kernel_rfl) (by kernel_rfl) ?_
 refine L.runU [0, 1, 2, 3] [] [(17, sv s), (18, .int .i64 (((s.length : Nat) : Int))), (4, .int .i64 (((s.length : Nat) : Int))), (5, .nilIface)] (by kernel_rfl) (by kernel_rfl) ?_
 refine L.done ?_
 show S _ _ _ c90_n8 _ _ _ _
 refine S.ret (by kernel_rfl) ?_
 show Leave _ _ _ _ _ _ _ _
 refine Leave.ret2 (x := .tmp 4) (y := .tmp 5) (.int .i64 (((s.length : Nat) : Int))) (.nilIface) (by kernel_rfl) (.ofT (by kernel_rfl)) (.ofT (by kernel_rfl)) ?_
 exact ⟨_, rfl, hE127, rfl, a116, cap117, B126, O128, hat⟩
noncomputable def c93 : Code := bodyOf Tryz.f93
noncomputable def c93_0 : Code := kid 0 c93
noncomputable def o93_0 : Array Oper := regOps c93_0
noncomputable def c93_1 : Code := kid 1 c93
noncomputable def c93_1_0 : Code := kid 0 c93_1
noncomputable def o93_1_0 : Array Oper := regOps c93_1_0
noncomputable def c93_1_1 : Code := kid 1 c93_1
set_option maxHeartbeats 400000 in
theorem bstr_ok (M : List Nat) (b base : Nat) (y : Value) (a : Option Addr) (cap : Nat) (l : Str) (w : World) (hM : Mok M w) (hb : b ∈ M) (hB : Blk w b [y, .slice a l.length cap] 142) (hO : Own Kd.byte 5 base M w (.slice a l.length cap) l) (hbase : base ≤ w.heap.size) (h0 : l ≠ []) (hlen : l.length ≤ 140737488355328) : Calls Tryz.prog 93 #[.pointer (some ⟨b, 0, none⟩)] w (RetW (ob (.slice a l.length cap)) w fun v w' => v = sv l) := by
 refine calls_of_S (n := 14) (c := c93) Tryz.func93 (by kernel_rfl) (by kernel_rfl) (Nat.le_of_ble_eq_true (by kernel_rfl)) ?_
 obtain ⟨g, rfl, _, hcap⟩ := own_some hO h0
 have := hB.lt
 have hM0 : Mok (ob (.slice (some ⟨g, 0, none⟩) l.length cap) ++ M) w := fun x hx => (List.mem_append.1 hx).elim (fun h => (hO.lt x h).2) (hM x)
 have hm0 : ∀ x, x ∈ ob (.slice (some ⟨g, 0, none⟩) l.length cap) → x ∈ (ob (.slice (some ⟨g, 0, none⟩) l.length cap)) ∨ w.heap.size ≤ x := fun x hx => .inl (by simp [hx])
 have hE0 : Eff (ob (.slice (some ⟨g, 0, none⟩) l.length cap)) w w := Eff.refl _ _
 refine S.seq (x := c93_0) (y := c93_1) (by kernel_rfl) ?_
 refine S.reg (ops := o93_0) (js := [0]) (by kernel_rfl) (by kernel_rfl) ?_
 refine L.runU [0] [] [(2, sv [])] (by kernel_rfl) (by kernel_rfl) ?_
 refine L.done ?_
 show S _ _ _ c93_1 _ _ _ _
 refine S.seq (x := c93_1_0) (y := c93_1_1) (by kernel_rfl) ?_
 refine S.draw (ops := o93_1_0) (Eff (ob (.slice (some ⟨g, 0, none⟩) l.length cap))) 12 #[false, false, false, false, false, false, false, false, false, false, false, false] (by kernel_rfl) (by kernel_rfl) (by kernel_rfl) (by kernel_rfl) ?_
 intro w101 E102 hw103
 have hE105 := hE0.and0 E102
 have := E102.size
 have O106 := hO.step same E102 no0
 have B107 := hB.eff0 E102
 have hM108 := hM0.eff E102
 have hS104 := Eff.refl (ob (.slice (some ⟨g, 0, none⟩) l.length cap)) w101
 have mm109 : ∀ x, x ∈ ob (.slice (some ⟨g, 0, none⟩) l.length cap) → x ∈ ob (.slice (some ⟨g, 0, none⟩) l.length cap) ∨ w101.heap.size ≤ x := fun x hx => .inl (by simp [hx])
 refine D.take 0 (.pointer (some ⟨b, 0, none⟩)) (some 3) #[true, false, false, false, false, false, false, false, false, false, false, false] (by kernel_rfl) (by kernel_rfl) (by kernel_rfl) (fun _ _ _ _ h => LeaveP.put h (by kernel_rfl)) (.pure (n := 14) (by kernel_rfl)) hS104 ?_
 refine D.take 1 (.pointer (some ⟨b, 0, none⟩)) (some 4) #[true, true, false, false, false, false, false, false, false, false, false, false] (by kernel_rfl) (by kernel_rfl) (by kernel_rfl) (fun _ _ _ _ h => LeaveP.put h (by kernel_rfl)) (.pure (n := 14) (by kernel_rfl)) hS104 ?_
 refine D.take 2 (.pointer (some ⟨b, 1, none⟩)) (some 5) #[true, true, true, false, false, false, false, false, false, false, false, false] (by kernel_rfl) (by kernel_rfl) (by kernel_rfl) (fun _ _ _ _ h => LeaveP.put h (by kernel_rfl)) (.pure (n := 14) (by kernel_rfl)) hS104 ?_
 refine D.take 3 (.slice (some ⟨g, 0, none⟩) l.length cap) (some 6) #[true, true, true, true, false, false, false, false, false, false, false, false] (by kernel_rfl) (by kernel_rfl) (by kernel_rfl) (fun _ _ _ _ h => LeaveP.put h (by kernel_rfl)) (.val (n := 14) (by kernel_rfl : lookAt _ _ _ _ = some ((Op.load 128 (Operand.tmp 5)), some 6)) (by intro c e; cases e) (fun _ h => rx_load 1 (.slice (some ⟨g, 0, none⟩) l.length cap) ((B107.eff h (O106.apart (by simp [*]))).cells) (by kernel_rfl) (by kernel_rfl))) hS104 ?_
 refine D.take 4 (.pointer (some ⟨g, 0, none⟩)) (some 7) #[true, true, true, true, true, false, false, false, false, false, false, false] (by kernel_rfl) (by kernel_rfl) (by kernel_rfl) (fun _ _ _ _ h => LeaveP.put h (by kernel_rfl)) (.val (n := 14) (by kernel_rfl : lookAt _ _ _ _ = some ((Op.call { callee := (Callee.builtin Builtin.unsafeSliceData), args := #[(Operand.tmp 6)], argTypes := #[128] }), some 7)) (by intro c e; cases e) (fun _ h => rx_sliceData (a := ⟨g, 0, none⟩) (m := l.length) (c := cap) (by kernel_rfl) hcap)) hS104 ?_
 refine D.take 5 (.pointer (some ⟨b, 0, none⟩)) (some 8) #[true, true, true, true, true, true, false, false, false, false, false, false] (by kernel_rfl) (by kernel_rfl) (by kernel_rfl) (fun _ _ _ _ h => LeaveP.put h (by kernel_rfl)) (.pure (n := 14) (by kernel_rfl)) hS104 ?_
 refine D.take 6 (.pointer (some ⟨b, 0, none⟩)) (some 9) #[true, true, true, true, true, true, true, false, false, false, false, false] (by kernel_rfl) (by kernel_rfl) (by kernel_rfl) (fun _ _ _ _ h => LeaveP.put h (by kernel_rfl)) (.pure (n := 14) (by kernel_rfl)) hS104 ?_
 refine D.take 7 (.pointer (some ⟨b, 1, none⟩)) (some 10) #[true, true, true, true, true, true, true, true, false, false, false, false] (by kernel_rfl) (by kernel_rfl) (by kernel_rfl) (fun _ _ _ _ h => LeaveP.put h (by kernel_rfl)) (.pure (n := 14) (by kernel_rfl)) hS104 ?_
 refine D.take 8 (.slice (some ⟨g, 0, none⟩) l.length cap) (some 11) #[true, true, true, true, true, true, true, true, true, false, false, false] (by kernel_rfl) (by kernel_rfl) (by kernel_rfl) (fun _ _ _ _ h => LeaveP.put h (by kernel_rfl)) (.val (n := 14) (by kernel_rfl : lookAt _ _ _ _ = some ((Op.load 128 (Operand.tmp 10)), some 11)) (by intro c e; cases e) (fun _ h => rx_load 1 (.slice (some ⟨g, 0, none⟩) l.length cap) ((B107.eff h (O106.apart (by simp [*]))).cells) (by kernel_rfl) (by kernel_rfl))) hS104 ?_
 refine D.take 9 (.int .i64 (((l.length : Nat) : Int))) (some 12) #[true, true, true, true, true, true, true, true, true, true, false, false] (by kernel_rfl) (by kernel_rfl) (by kernel_rfl) (fun _ _ _ _ h => LeaveP.put h (by kernel_rfl)) (.pure (n := 14) (by kernel_rfl)) hS104 ?_
 refine D.all [10] (by kernel_rfl) (by kernel_rfl) ⟨?_, trivial⟩
 refine L.unsafeString (e := 5) (base := base) (M := M) (g := g) (cap := cap) (l := l) (by kernel_rfl : lookAt _ _ _ _ = some ((Op.call { callee := (Callee.builtin Builtin.unsafeString), args := #[(Operand.tmp 7), (Operand.tmp 12)], argTypes := #[183, 3] }), some 13)) (by kernel_rfl) (by kernel_rfl) (by kernel_rfl) (by kernel_rfl) O106 h0 (by omega) ?_
 intro w110 E111 hz112
 have E113 : Eff (ob (.slice (some ⟨g, 0, none⟩) l.length cap)) w101 w110 := by simpa [ob, Value.ownBlock] using E111
 have hE114 := hE105.andMem E113 hm0
 have := E113.size
 have hS115 := hS104.andMem E113 mm109
 have B116 := B107.eff E113 (O106.apart (by simp [*]))
 have hM117 := hM108.eff E113
 refine ⟨hS115, ?_⟩
 refine D.all [11] (by kernel_rfl) (by kernel_rfl) ⟨?_, trivial⟩
 refine Step.pure (v := sv l) (by kernel_rfl) ?_
 refine ⟨hS115, ?_⟩
 refine D.done _ (by kernel_rfl) ?_
 show S _ _ _ c93_1_1 _ _ _ _
 refine S.ret (by kernel_rfl) ?_
 show Leave _ _ _ _ _ _ _ _
 refine Leave.ret1 (x := .tmp 2) (sv l) (by kernel_rfl) (.ofT (by kernel_rfl)) ?_
 exact ⟨_, rfl, hE114, rfl⟩
end Go.Proofs.YtjleeadiadpiaaaGreatDoor
namespace Go.Proofs.YtjleeadiadpiaaaGreatDoor
open Go Go.Fx Go.RowKit Go.Shelf Go.Proofs
def Tryz.laysM171_ren : Go.Shelf.Ren := ⟨fun | 171 => 92 | 243 => 127 | 246 => 151 | 283 => 175 | 284 => 176 | 285 => 177 | 286 => 178 | 129 => 174 | 317 => 197 | 318 => 198 | 319 => 199 | 320 => 200 | 337 => 206 | 338 => 207 | n => n, fun | 3 => 3 | 9 => 9 | 2 => 2 | 4 => 4 | 171 => 224 | 0 => 0 | 53 => 223 | 37 => 128 | 5 => 5 | 173 => 226 | 212 => 248 | 51 => 221 | 20 => 20 | 213 => 249 | 46 => 182 | 232 => 266 | 233 => 267 | n => n, fun | 17 => 1 | 18 => 6 | 19 => 7 | n => n⟩
theorem Tryz.laysM171 : Go.Proofs.LaysM.n171 Tryz.prog Tryz.laysM171_ren := {
  mixed := by kernel_rfl
  f129 := Tryz.func174.trans (congrArg some (by kernel_rfl))
  f171 := Tryz.func92.trans (congrArg some (by kernel_rfl))
  f243 := Tryz.func127.trans (congrArg some (by kernel_rfl))
  f246 := Tryz.func151.trans (congrArg some (by kernel_rfl))
  f283 := Tryz.func175.trans (congrArg some (by kernel_rfl))
  f284 := Tryz.func176.trans (congrArg some (by kernel_rfl))
  f285 := Tryz.func177.trans (congrArg some (by kernel_rfl))
  f286 := Tryz.func178.trans (congrArg some (by kernel_rfl))
  f317 := Tryz.func197.trans (congrArg some (by kernel_rfl))
  f318 := Tryz.func198.trans (congrArg some (by kernel_rfl))
  f319 := Tryz.func199.trans (congrArg some (by kernel_rfl))
  f320 := Tryz.func200.trans (congrArg some (by kernel_rfl))
  f337 := Tryz.func206.trans (congrArg some (by kernel_rfl))
  f338 := Tryz.func207.trans (congrArg some (by kernel_rfl))
  t0 := Tryz.underlying0
  a0 := Tryz.isAgg0
  z0 := Tryz.sizeOf0
  v0 := Tryz.zeroValue0
  t2 := Tryz.underlying2
  a2 := Tryz.isAgg2
  z2 := Tryz.sizeOf2
  v2 := Tryz.zeroValue2
  t3 := Tryz.underlying3
  a3 := Tryz.isAgg3
  z3 := Tryz.sizeOf3
  v3 := Tryz.zeroValue3
  t4 := Tryz.underlying4
  a4 := Tryz.isAgg4
  z4 := Tryz.sizeOf4
  v4 := Tryz.zeroValue4
  t5 := Tryz.underlying5
  a5 := Tryz.isAgg5
  z5 := Tryz.sizeOf5
  v5 := Tryz.zeroValue5
  t9 := Tryz.underlying9
  a9 := Tryz.isAgg9
  z9 := Tryz.sizeOf9
  v9 := Tryz.zeroValue9
  t20 := Tryz.underlying20
  a20 := Tryz.isAgg20
  z20 := Tryz.sizeOf20
  v20 := Tryz.zeroValue20
  t37 := Tryz.underlying128
  a37 := Tryz.isAgg128
  z37 := Tryz.sizeOf128
  v37 := Tryz.zeroValue128
  t46 := Tryz.underlying182
  a46 := Tryz.isAgg182
  z46 := Tryz.sizeOf182
  v46 := Tryz.zeroValue182
  t51 := Tryz.underlying221
  a51 := Tryz.isAgg221
  z51 := Tryz.sizeOf221
  v51 := Tryz.zeroValue221
  t53 := Tryz.underlying223
  a53 := Tryz.isAgg223
  z53 := Tryz.sizeOf223
  v53 := Tryz.zeroValue223
  t171 := Tryz.underlying224
  a171 := Tryz.isAgg224
  z171 := Tryz.sizeOf224
  v171 := Tryz.zeroValue224
  t173 := Tryz.underlying226
  a173 := Tryz.isAgg226
  z173 := Tryz.sizeOf226
  v173 := Tryz.zeroValue226
  t212 := Tryz.underlying248
  a212 := Tryz.isAgg248
  z212 := Tryz.sizeOf248
  v212 := Tryz.zeroValue248
  t213 := Tryz.underlying249
  a213 := Tryz.isAgg249
  z213 := Tryz.sizeOf249
  t232 := Tryz.underlying266
  a232 := Tryz.isAgg266
  z232 := Tryz.sizeOf266
  v232 := Tryz.zeroValue266
  t233 := Tryz.underlying267
  a233 := Tryz.isAgg267
  z233 := Tryz.sizeOf267
  v233 := Tryz.zeroValue267
  g17 := by kernel_rfl
  g18 := by kernel_rfl
  g19 := by kernel_rfl
  i0 := by kernel_rfl
  i2 := by kernel_rfl
  i3 := by kernel_rfl
  i4 := by kernel_rfl
  i5 := by kernel_rfl
  i9 := by kernel_rfl
  i20 := by kernel_rfl
  i37 := by kernel_rfl
  i46 := by kernel_rfl
  i51 := by kernel_rfl
  i53 := by kernel_rfl
  i171 := by kernel_rfl
  i173 := by kernel_rfl
  i212 := by kernel_rfl
  i232 := by kernel_rfl
  i233 := by kernel_rfl
  m17 := by kernel_rfl
  m18 := by kernel_rfl
  m19 := by kernel_rfl }
def TabP (w : World) : Prop := Lib.TabIs Tryz.prog w "internal/strconv.uint64pow10" .u64 Lib.pow10Tab
theorem tabG : Tryz.prog.globalNamed "internal/strconv.uint64pow10" = some 1 := by kernel_rfl
theorem TabP.of {w w' : World} (h : TabP w) (e : w'.heap[1]? = w.heap[1]?) : TabP w' := by
  unfold TabP Lib.TabIs World.var? at *
  simp only [tabG, Option.bind_some] at *
  rw [e]; exact h
theorem TabP.lt {w : World} (h : TabP w) : 1 < w.heap.size := by
  unfold TabP Lib.TabIs World.var? at h
  simp only [tabG, Option.bind_some] at h
  cases hx : w.heap[1]? with
  | none => rw [hx] at h; cases h
  | some o => exact (Array.getElem?_eq_some_iff.1 hx).1
theorem TabP.eff {w w' : World} {W : List Nat} (h : TabP w) (E : Eff W w w') (hb : 1 ∉ W) : TabP w' := h.of (E.same 1 h.lt hb)
theorem TabP.eff0 {w w' : World} (h : TabP w) (E : Eff [] w w') : TabP w' := h.eff E (by simp)
theorem TabP.eff1 {w w' : World} {x : Nat} (h : TabP w) (E : Eff [x] w w') (hx : 1 ≠ x) : TabP w' := h.eff E (by simpa using hx)
theorem itoa_ok (n : Int) (w : World) (h0 : -9223372036854775808 ≤ n) (h1 : n ≤ 9223372036854775807) (hT : TabP w) : Calls Tryz.prog 92 #[.int .i64 n] w (RetW [] w fun v _ => v = sv (Lib.itoa n)) := by
  have c := Any.strconv_Itoa Tryz.laysM171 n h0 h1 w hT
  refine (show Calls Tryz.prog 92 _ w _ from c).mono ?_
  rintro e w' ⟨rfl, k, os, rfl⟩
  exact ⟨_, rfl, Eff.of_below (Go.Lib.below_grow w.heap.size w (Nat.le_refl _) k os), rfl⟩
end Go.Proofs.YtjleeadiadpiaaaGreatDoor
namespace Go.Proofs.YtjleeadiadpiaaaGreatDoor
open Go Go.Fx Go.RowKit Go.ChangeShapes Go.WideShapes
theorem own0 : ownKnob Tryz.prog.godebug = none := by kernel_rfl
theorem gTabType : (Tryz.prog.globals[1]?).map (·.type) = some 248 := by kernel_rfl
theorem gCells : Tryz.prog.cellsOf 248 = 20 := by kernel_rfl
theorem tab_of {w : World} {l : List (String × DataW Unit)} (hl : l = [("math/bits.deBruijn32tab", Rows.laid_math_bits_deBruijn32tab), ("math/bits.deBruijn64tab", Rows.laid_math_bits_deBruijn64tab), ("internal/strconv.uint64pow10", Rows.laid_internal_strconv_uint64pow10)]) (h : laidMetH Tryz.prog l w) : TabP w := by
  subst hl
  have h1 : laidMet Tryz.prog [("math/bits.deBruijn32tab", Rows.laid_math_bits_deBruijn32tab), ("math/bits.deBruijn64tab", Rows.laid_math_bits_deBruijn64tab), ("internal/strconv.uint64pow10", Rows.laid_internal_strconv_uint64pow10)] w := h
  exact Lib.tabIs_of_head (rest := []) (k := .u64) (zs := Lib.pow10Tab) tabG gTabType Tryz.underlying248 Tryz.underlying223 (by kernel_rfl) gCells (laidMet.tail (laidMet.tail h1))
def cellsOfTab : DataW Unit → Array Value
  | .agg l => (l.map fun d => match d with | .lit (.int k n) => Value.int k n | _ => Value.bool false).toArray
  | _ => #[]
def layAt (h : Array Obj) (b : Nat) (d : DataW Unit) : Array Obj := h.modify b fun
  | .cells _ t frozen => .cells (cellsOfTab d) t frozen
  | o => o
noncomputable def laidWorld (os : Os) : World :=
  { World.holding Tryz.prog os ⟨#[], #[], []⟩ with heap := layAt (layAt (layAt (World.holding Tryz.prog os ⟨#[], #[], []⟩).heap 6 Rows.laid_math_bits_deBruijn32tab) 7 Rows.laid_math_bits_deBruijn64tab) 1 Rows.laid_internal_strconv_uint64pow10 }
theorem laid_out : laidOutB Tryz.prog = true := by kernel_rfl
end Go.Proofs.YtjleeadiadpiaaaGreatDoor
namespace Go.Proofs.YtjleeadiadpiaaaGreatDoor
open Go Go.Fx Go.RowKit
def fieldNames : List Str := [[102, 117, 108, 108], [103, 105, 118, 101, 110], [102, 97, 109, 105, 108, 121], [111, 114, 103], [116, 105, 116, 108, 101], [110, 111, 116, 101], [109, 97, 105, 108], [112, 104, 111, 110, 101]]
def lineS (a b : Str) : Str := a ++ [32] ++ b ++ [10]
noncomputable def c91 : Code := bodyOf Tryz.f91
noncomputable def c91_0 : Code := kid 0 c91
noncomputable def o91_0 : Array Oper := regOps c91_0
noncomputable def c91_1 : Code := kid 1 c91
noncomputable def c91_1_0 : Code := kid 0 c91_1
noncomputable def o91_1_0 : Array Oper := regOps c91_1_0
noncomputable def c91_1_1 : Code := kid 1 c91_1
set_option maxHeartbeats 400000 in
theorem names_ok  (w : World)  : Calls Tryz.prog 91 #[] w (RetW [] w fun v w' => v = .agg (fieldNames.map sv).toArray) := by
 refine calls_of_S (n := 2) (c := c91) Tryz.func91 (by kernel_rfl) (by kernel_rfl) (Nat.le_of_ble_eq_true (by kernel_rfl)) ?_
 have hE0 : Eff [] w w := Eff.refl _ _
 refine S.seq (x := c91_0) (y := c91_1) (by kernel_rfl) ?_
 refine S.reg (ops := o91_0) (js := [0]) (by kernel_rfl) (by kernel_rfl) ?_
 refine L.alloc [sv [], sv [], sv [], sv [], sv [], sv [], sv [], sv []] (by kernel_rfl : lookAt _ _ _ _ = some ((Op.alloc 148), some 0)) (by kernel_rfl) ?_
 intro b101 w102 hs103 hz104 E105 B106
 have hE107 := hE0.and0 E105
 have := E105.size
 refine L.done ?_
 show S _ _ _ c91_1 _ _ _ _
 refine S.seq (x := c91_1_0) (y := c91_1_1) (by kernel_rfl) ?_
 refine S.reg (ops := o91_1_0) (js := [0, 1]) (by kernel_rfl) (by kernel_rfl) ?_
 refine L.runU [0] [1] [(1, .agg #[sv [102, 117, 108, 108], sv [103, 105, 118, 101, 110], sv [102, 97, 109, 105, 108, 121], sv [111, 114, 103], sv [116, 105, 116, 108, 101], sv [110, 111, 116, 101], sv [109, 97, 105, 108], sv [112, 104, 111, 110, 101]])] (by kernel_rfl) (by kernel_rfl) ?_
 refine L.store 0 [sv [102, 117, 108, 108], sv [103, 105, 118, 101, 110], sv [102, 97, 109, 105, 108, 121], sv [111, 114, 103], sv [116, 105, 116, 108, 101], sv [110, 111, 116, 101], sv [109, 97, 105, 108], sv [112, 104, 111, 110, 101]] [sv [102, 117, 108, 108], sv [103, 105, 118, 101, 110], sv [102, 97, 109, 105, 108, 121], sv [111, 114, 103], sv [116, 105, 116, 108, 101], sv [110, 111, 116, 101], sv [109, 97, 105, 108], sv [112, 104, 111, 110, 101]] (by kernel_rfl : lookAt _ _ _ _ = some ((Op.store 148 (Operand.tmp 0) (Operand.tmp 1)), none)) (by kernel_rfl) B106 (by kernel_rfl) (by kernel_rfl) (by kernel_rfl) (one_of_all (by kernel_rfl)) (by kernel_rfl) ?_
 intro w108 E109 hz110 B111
 have hE112 := hE107.and1 E109 (by omega)
 have := E109.size
 refine L.done ?_
 show S _ _ _ c91_1_1 _ _ _ _
 refine S.ret (by kernel_rfl) ?_
 show Leave _ _ _ _ _ _ _ _
 refine Leave.ret1 (x := .cell 0 148) (.agg #[sv [102, 117, 108, 108], sv [103, 105, 118, 101, 110], sv [102, 97, 109, 105, 108, 121], sv [111, 114, 103], sv [116, 105, 116, 108, 101], sv [110, 111, 116, 101], sv [109, 97, 105, 108], sv [112, 104, 111, 110, 101]]) (by kernel_rfl) (.ofC 0 (by kernel_rfl) B111.cells (by kernel_rfl)) ?_
 refine ⟨_, rfl, hE112, ?_⟩
 rfl
noncomputable def c89 : Code := bodyOf Tryz.f89
noncomputable def o89 : Array Oper := regOps c89
set_option maxHeartbeats 400000 in
theorem line_ok (M : List Nat) (b base : Nat) (y : Value) (a : Option Addr) (cap : Nat) (l : Str) (a1 b1 : Str) (w : World) (hM : Mok M w) (hb : b ∈ M) (hB : Blk w b [y, .slice a l.length cap] 142) (hy : y = .pointer none ∨ y = .pointer (some ⟨b, 0, none⟩)) (hO : Own Kd.byte 5 base M w (.slice a l.length cap) l) (hbase : base ≤ w.heap.size) (hlen : l.length + (lineS a1 b1).length ≤ 140737488355328) : Calls Tryz.prog 89 #[sv a1, sv b1, .pointer (some ⟨b, 0, none⟩)] w (RetW (ob (.slice a l.length cap) ++ [b]) w fun v w' => v = .tuple #[] ∧ ∃ a' cap', Blk w' b [.pointer (some ⟨b, 0, none⟩), .slice a' (l ++ lineS a1 b1).length cap'] 142 ∧ Own Kd.byte 5 base M w' (.slice a' (l ++ lineS a1 b1).length cap') (l ++ lineS a1 b1) ∧ ∀ x, x ∈ ob (.slice a' (l ++ lineS a1 b1).length cap') → x ∈ ob (.slice a l.length cap) ∨ w.heap.size ≤ x) := by
 refine calls_of_S (n := 11) (c := c89) Tryz.func89 (by kernel_rfl) (by kernel_rfl) (Nat.le_of_ble_eq_true (by kernel_rfl)) ?_
 have := hB.lt
 have hM0 : Mok (ob (.slice a l.length cap) ++ M) w := fun x hx => (List.mem_append.1 hx).elim (fun h => (hO.lt x h).2) (hM x)
 have hm0 : ∀ x, x ∈ ob (.slice a l.length cap) → x ∈ (ob (.slice a l.length cap) ++ [b]) ∨ w.heap.size ≤ x := fun x hx => .inl (by simp [hx])
 have hll : (lineS a1 b1).length = a1.length + b1.length + 2 := by simp [lineS]; omega
 have hE0 : Eff (ob (.slice a l.length cap) ++ [b]) w w := Eff.refl _ _
 refine S.reg (ops := o89) (js := [0, 1, 2, 3, 4, 5]) (by kernel_rfl) (by kernel_rfl) ?_
 refine L.runU [0] [1, 2, 3, 4, 5] [(5, sv a1)] (by kernel_rfl) (by kernel_rfl) ?_
 refine L.val (sv (a1 ++ [32])) (by kernel_rfl : lookAt _ _ _ _ = some ((Op.binOp BinOp.add 9 (Operand.tmp 5) (Operand.const (Value.string { data := #[32] })) 9), some 6)) (by intro c e; cases e) (rx_strAdd a1 [32] (by kernel_rfl) (by kernel_rfl) (by (simp only [List.length_cons, List.length_nil, List.length_append, List.length_take, List.length_drop, List.length_map, List.length_replicate] <;> omega))) ?_
 refine L.runU [2] [3, 4, 5] [(7, sv b1)] (by kernel_rfl) (by kernel_rfl) ?_
 refine L.val (sv ((a1 ++ [32]) ++ b1)) (by kernel_rfl : lookAt _ _ _ _ = some ((Op.binOp BinOp.add 9 (Operand.tmp 6) (Operand.tmp 7) 9), some 8)) (by intro c e; cases e) (rx_strAdd (a1 ++ [32]) b1 (by kernel_rfl) (by kernel_rfl) (by (simp only [List.length_cons, List.length_nil, List.length_append, List.length_take, List.length_drop, List.length_map, List.length_replicate] <;> omega))) ?_
 refine L.val (sv (((a1 ++ [32]) ++ b1) ++ [10])) (by kernel_rfl : lookAt _ _ _ _ = some ((Op.binOp BinOp.add 9 (Operand.tmp 8) (Operand.const (Value.string { data := #[10] })) 9), some 9)) (by intro c e; cases e) (rx_strAdd ((a1 ++ [32]) ++ b1) [10] (by kernel_rfl) (by kernel_rfl) (by (simp only [List.length_cons, List.length_nil, List.length_append, List.length_take, List.length_drop, List.length_map, List.length_replicate] <;> omega))) ?_
 refine L.call (f := 90) (by kernel_rfl : lookAt _ _ _ _ = some ((Op.call { callee := (Callee.value (Operand.func 90)), args := #[(Operand.tmp 2), (Operand.tmp 9)], argTypes := #[142, 9] }), some 10)) e90 (by kernel_rfl) (wstr_ok (M) b base (y) a cap l (((a1 ++ [32]) ++ b1) ++ [10]) _ (hM0.sub (sDrop sSame)) (by simp [*]) hB hy hO (by omega) (by simp only [List.length_append, List.length_cons, List.length_nil]; omega)) ?_
 rintro _ w107 E108 ⟨rfl, a101, cap102, B103, O104, hat105⟩
 have hE110 := hE0.andMem E108 (memApp hm0 (memIn (in1 (by simp))))
 have := E108.size
 have mm111 := memN (base := w.heap.size) hm0 hat105 (by omega)
 have hM112 : Mok (ob (.slice a101 ((l ++ (((a1 ++ [32]) ++ b1) ++ [10])).length) cap102) ++ M) w107 := hM0.step E108 (nTurn (fun b hb => .inr ((fun b hb => (O104.lt b hb).2) b hb)) same)
 have hat : ∀ x, x ∈ ob (.slice a101 ((l ++ (((a1 ++ [32]) ++ b1) ++ [10])).length) cap102) → x ∈ ob (.slice a l.length cap) ∨ w.heap.size ≤ x := fun x hx => (hat105 x hx).imp id (fun h => by omega)
 refine L.done ?_
 show Leave _ _ _ _ _ _ _ _
 refine Leave.ret0 (by kernel_rfl) ?_
 exact ⟨_, rfl, hE110, rfl, a101, cap102, B103, O104, hat⟩
end Go.Proofs.YtjleeadiadpiaaaGreatDoor
namespace Go.Proofs.YtjleeadiadpiaaaGreatDoor
open Go Go.Fx Go.RowKit
def lineN (s : Str) : Str := lineS (Lib.itoa (s.length : Int)) s
def headS (f : Nat) (l : List Str) : Str := if 0 < l.length then lineS (fieldNames.getD f []) (Lib.itoa (l.length : Int)) else []
def linesN (l : List Str) (k : Nat) : Str := ((l.take k).map lineN).flatten
def fieldT (f : Nat) (l : List Str) : Str := headS f l ++ (l.map lineN).flatten
def textN (c : List (List Str)) (n : Nat) : Str := ((List.range n).map fun f => fieldT f (c.getD f [])).flatten
def textF (c : List (List Str)) : Str := textN c 8
theorem linesN_snoc {l : List Str} {k : Nat} {s : Str} {a : Str} (h : l[k]? = some s) : a ++ linesN l k ++ lineS (Lib.itoa (s.length : Int)) s = a ++ linesN l (k + 1) := by
 obtain ⟨hk, rfl⟩ := List.getElem?_eq_some_iff.1 h
 rw [linesN, linesN, List.take_succ_eq_append_getElem hk, List.map_append, List.flatten_append, List.append_assoc]
 simp only [List.map_cons, List.map_nil, List.flatten_cons, List.flatten_nil, List.append_nil, lineN]
theorem textN_snoc {c : List (List Str)} {n k : Nat} {x : List Str} {o : Str} (h : o = textN c n ++ headS n x ++ linesN x k) (hx : c[n]? = some x) (hk : x.length ≤ k) : o = textN c (n + 1) := by
 rw [h, textN, textN, List.range_succ, List.map_append, List.flatten_append]
 simp [fieldT, linesN, List.take_of_length_le hk, List.getD_eq_getElem?_getD, hx]
theorem names_len (f : Nat) : (fieldNames.getD f []).length ≤ 6 := by
 rw [List.getD_eq_getElem?_getD]
 cases h : fieldNames[f]? with
 | none => simp
 | some x =>
  have hx := List.mem_of_getElem? h
  simp only [fieldNames, List.mem_cons, List.not_mem_nil, or_false] at hx
  rcases hx with rfl | rfl | rfl | rfl | rfl | rfl | rfl | rfl <;> simp
theorem right_vals {c : List (List Str)} (h : rightF c = true) {f : Nat} (hf : f < 8) : valuesF f (c.getD f []) = true := allI_get (P := fun f => valuesF f (c.getD f [])) h hf
theorem right_len {c : List (List Str)} (h : rightF c = true) (hc : c.length = 8) {f : Nat} {x : List Str} (hx : c[f]? = some x) : x.length ≤ 8 ∧ ∀ s ∈ x, s.length ≤ 200 := by
 have hf : f < 8 := by rw [← hc]; exact (List.getElem?_eq_some_iff.1 hx).1
 have hv := right_vals h hf
 rw [getD_of hx] at hv
 simp only [valuesF, Bool.and_eq_true, decide_eq_true_eq] at hv
 refine ⟨?_, fun s hs => ?_⟩
 ·have : mostF f ≤ 8 := by unfold mostF; split <;> omega
  omega
 ·obtain ⟨i, hi, rfl⟩ := List.getElem_of_mem hs
  have := allI_get hv.2 hi
  simp only [valB, Bool.and_eq_true, lenIn, decide_eq_true_eq] at this
  have h2 := this.1.1.2
  rw [List.getD_eq_getElem?_getD, List.getElem?_eq_getElem hi] at h2
  exact h2
theorem textF_ne {c : List (List Str)} (h : rightF c = true) : textN c 8 ≠ [] := by
 intro h0
 have hv := right_vals h (f := 0) (by omega)
 simp only [valuesF, Bool.and_eq_true, Bool.or_eq_true, Bool.not_eq_true', decide_eq_true_eq, decide_true] at hv
 have h1 : (c.getD 0 []).length = 1 := by
  rcases hv.1.2 with h | h
  ·cases h
  ·exact h
 have h2 := List.flatten_eq_nil_iff.1 h0 (fieldT 0 (c.getD 0 [])) (List.mem_map.2 ⟨0, by simp, rfl⟩)
 rw [fieldT, headS, if_pos (by omega)] at h2
 have := congrArg List.length h2
 simp [lineS] at this
noncomputable def c58 : Code := bodyOf Tryz.f58
noncomputable def c58_0 : Code := kid 0 c58
noncomputable def o58_0 : Array Oper := regOps c58_0
noncomputable def c58_1 : Code := kid 1 c58
noncomputable def c58_1_0 : Code := kid 0 c58_1
noncomputable def c58_1_0_0 : Code := kid 0 c58_1_0
noncomputable def o58_1_0_0 : Array Oper := regOps c58_1_0_0
noncomputable def c58_1_0_1 : Code := kid 1 c58_1_0
noncomputable def c58_n6 : Code := kid 0 c58_1_0_1
noncomputable def c58_n7 : Code := kid 0 c58_n6
noncomputable def o58_n7 : Array Oper := regOps c58_n7
noncomputable def c58_n8 : Code := kid 1 c58_n6
noncomputable def c58_n9 : Code := kid 1 c58_1_0_1
noncomputable def c58_1_1 : Code := kid 1 c58_1
noncomputable def c58_1_1_0 : Code := kid 0 c58_1_1
noncomputable def o58_1_1_0 : Array Oper := regOps c58_1_1_0
noncomputable def c58_1_1_1 : Code := kid 1 c58_1_1
noncomputable def c58_n13 : Code := kid 0 c58_1_1_1
noncomputable def o58_n13 : Array Oper := regOps c58_n13
noncomputable def c58_n14 : Code := kid 1 c58_1_1_1
noncomputable def c58_n15 : Code := kid 0 c58_n14
noncomputable def c58_n16 : Code := kid 0 c58_n15
noncomputable def o58_n16 : Array Oper := regOps c58_n16
noncomputable def c58_n17 : Code := kid 1 c58_n15
noncomputable def c58_n18 : Code := kid 0 c58_n17
noncomputable def c58_n19 : Code := kid 0 c58_n18
noncomputable def c58_n20 : Code := kid 0 c58_n19
noncomputable def o58_n20 : Array Oper := regOps c58_n20
noncomputable def c58_n21 : Code := kid 1 c58_n19
noncomputable def o58_n21 : Array Oper := regOps c58_n21
noncomputable def c58_n22 : Code := kid 1 c58_n18
noncomputable def c58_n23 : Code := kid 0 c58_n22
noncomputable def c58_n24 : Code := kid 0 c58_n23
noncomputable def c58_n25 : Code := kid 0 c58_n24
noncomputable def o58_n25 : Array Oper := regOps c58_n25
noncomputable def c58_n26 : Code := kid 1 c58_n24
noncomputable def c58_n27 : Code := kid 0 c58_n26
noncomputable def o58_n27 : Array Oper := regOps c58_n27
noncomputable def c58_n28 : Code := kid 1 c58_n26
noncomputable def c58_n29 : Code := kid 1 c58_n23
noncomputable def c58_n30 : Code := kid 0 c58_n29
noncomputable def o58_n30 : Array Oper := regOps c58_n30
noncomputable def c58_n31 : Code := kid 1 c58_n29
noncomputable def c58_n32 : Code := kid 0 c58_n31
noncomputable def c58_n33 : Code := kid 0 c58_n32
noncomputable def c58_n34 : Code := kid 0 c58_n33
noncomputable def o58_n34 : Array Oper := regOps c58_n34
noncomputable def c58_n35 : Code := kid 1 c58_n33
noncomputable def c58_n36 : Code := kid 0 c58_n35
noncomputable def c58_n37 : Code := kid 0 c58_n36
noncomputable def c58_n38 : Code := kid 1 c58_n36
noncomputable def c58_n39 : Code := kid 1 c58_n35
noncomputable def c58_n40 : Code := kid 0 c58_n39
noncomputable def c58_n41 : Code := kid 0 c58_n40
noncomputable def c58_n42 : Code := kid 0 c58_n41
noncomputable def o58_n42 : Array Oper := regOps c58_n42
noncomputable def c58_n43 : Code := kid 1 c58_n41
noncomputable def o58_n43 : Array Oper := regOps c58_n43
noncomputable def c58_n44 : Code := kid 1 c58_n39
noncomputable def o58_n44 : Array Oper := regOps c58_n44
noncomputable def c58_n45 : Code := kid 1 c58_n14
noncomputable def c58_n46 : Code := kid 0 c58_n45
noncomputable def o58_n46 : Array Oper := regOps c58_n46
noncomputable def c58_n47 : Code := kid 1 c58_n45
set_option maxHeartbeats 400000 in
theorem text_ok (cs : List Value) (c : List (List Str)) (w : World) (h : kCt.R [] w cs c) (hTab : TabP w) : Calls Tryz.prog 58 #[.agg (cs).toArray] w (RetW [] w fun v _ => v = if rightF c = true then .tuple #[sv (textF c), .int .i64 0] else .tuple #[sv [], .int .i64 2]) := by
 refine calls_of_S (n := 43) (c := c58) Tryz.func58 (by kernel_rfl) (by kernel_rfl) (Nat.le_of_ble_eq_true (by kernel_rfl)) ?_
 obtain ⟨v101, v102, v103, v104, v105, v106, v107, v108, rfl, C109⟩ := h
 have hlen : c.length = 8 := C109.2.1
 have := hTab.lt
 have hE0 : Eff [] w w := Eff.refl _ _
 refine S.seq (x := c58_0) (y := c58_1) (by kernel_rfl) ?_
 refine S.reg (ops := o58_0) (js := [0, 1, 2]) (by kernel_rfl) (by kernel_rfl) ?_
 refine L.box [v101, v102, v103, v104, v105, v106, v107, v108] (by kernel_rfl : lookAt _ _ _ _ = some ((Op.box 32 (Operand.tmp 0)), some 1)) (by kernel_rfl) ?_
 intro b110 w111 hs112 hz113 E114 B115
 have hE116 := hE0.and0 E114
 have := E114.size
 have C117 := Kd.step (Kd.array 8 [] (Kd.slice Kd.str) rfl) C109 (nNew (fresh1 hs112) same) E114 no0
 have B118 := hTab.eff0 E114
 have hM119 : Mok ([b110] ++ []) w111 := (Mok.nil _).step E114 (nNew (flt1 (b := b110) (by omega)) same)
 refine L.runU [1, 2] [] [(2, sv []), (3, .int .i64 0)] (by kernel_rfl) (by kernel_rfl) ?_
 refine L.done ?_
 show S _ _ _ c58_1 _ _ _ _
 refine S.seq (x := c58_1_0) (y := c58_1_1) (by kernel_rfl) ?_
 refine S.seq (x := c58_1_0_0) (y := c58_1_0_1) (by kernel_rfl) ?_
 refine S.reg (ops := o58_1_0_0) (js := [0, 1, 2]) (by kernel_rfl) (by kernel_rfl) ?_
 refine L.val (.agg #[v101, v102, v103, v104, v105, v106, v107, v108]) (by kernel_rfl : lookAt _ _ _ _ = some ((Op.load 32 (Operand.tmp 1)), some 10)) (by intro c e; cases e) (rx_load 0 (.agg #[v101, v102, v103, v104, v105, v106, v107, v108]) (B115.cells) (by kernel_rfl) (by kernel_rfl)) ?_
 refine L.call (f := 53) (by kernel_rfl : lookAt _ _ _ _ = some ((Op.call { callee := (Callee.value (Operand.func 53)), args := #[(Operand.tmp 10)], argTypes := #[32] }), some 11)) e53 (by kernel_rfl) (check_ok [v101, v102, v103, v104, v105, v106, v107, v108] c _ (Kd.wk0 kCt ⟨_, _, _, _, _, _, _, _, rfl, C117⟩)) ?_
 rintro _ w121 E122 rfl
 have hE124 := hE116.and0 E122
 have := E122.size
 have C125 := Kd.step (Kd.array 8 [] (Kd.slice Kd.str) rfl) C117 same E122 no0
 have B126 := B118.eff0 E122
 have B127 := B115.eff0 E122
 have hM128 := hM119.eff E122
 refine L.runU [2] [] [(12, .bool (!decide ((if rightF c = true then 0 else 2 : Int) = 0)))] (by kernel_rfl) (by kernel_rfl) ?_
 refine L.done ?_
 show S _ _ _ c58_1_0_1 _ _ _ _
 refine S.condN ((if rightF c = true then 0 else 2 : Int) = 0) (o := (Operand.tmp 12)) (x := c58_n6) (y := c58_n9) (by kernel_rfl) (by kernel_rfl) (fun h129 => ?_) (fun h129 => ?_)
 ·refine S.seq (x := c58_n7) (y := c58_n8) (by kernel_rfl) ?_
  refine S.reg (ops := o58_n7) (js := [0, 1]) (by kernel_rfl) (by kernel_rfl) ?_
  refine L.runU [0, 1] [] [(2, sv []), (3, .int .i64 2)] (by kernel_rfl) (by kernel_rfl) ?_
  refine L.done ?_
  show S _ _ _ c58_n8 _ _ _ _
  refine S.ret (by kernel_rfl) ?_
  show Leave _ _ _ _ _ _ _ _
  refine Leave.ret2 (x := .tmp 2) (y := .tmp 3) (sv []) (.int .i64 2) (by kernel_rfl) (.ofT (by kernel_rfl)) (.ofT (by kernel_rfl)) ?_
  refine ⟨_, rfl, hE124, ?_⟩
  rw [if_neg (by intro h0; simp_all)]
 ·refine S.skip (by kernel_rfl) ?_
  show S _ _ _ c58_1_1 _ _ _ _
  refine S.seq (x := c58_1_1_0) (y := c58_1_1_1) (by kernel_rfl) ?_
  refine S.reg (ops := o58_1_1_0) (js := [0]) (by kernel_rfl) (by kernel_rfl) ?_
  refine L.alloc [.pointer none, .slice none 0 0] (by kernel_rfl : lookAt _ _ _ _ = some ((Op.alloc 142), some 4)) (by kernel_rfl) ?_
  intro b130 w131 hs132 hz133 E134 B135
  have hE136 := hE124.and0 E134
  have := E134.size
  have C137 := Kd.step (Kd.array 8 [] (Kd.slice Kd.str) rfl) C125 (nNew (fresh1 hs132) (nKeep same)) E134 no0
  have B138 := B126.eff0 E134
  have B139 := B127.eff0 E134
  have hM140 : Mok ([b130] ++ ([b110] ++ [])) w131 := hM128.step E134 (nNew (flt1 (b := b130) (by omega)) (nKeep same))
  refine L.done ?_
  show S _ _ _ c58_1_1_1 _ _ _ _
  refine S.seq (x := c58_n13) (y := c58_n14) (by kernel_rfl) ?_
  refine S.reg (ops := o58_n13) (js := [0, 1, 2]) (by kernel_rfl) (by kernel_rfl) ?_
  refine L.runU [0] [1, 2] [(13, .func (.func 89) #[] #[.pointer (some ⟨b130, 0, none⟩)])] (by kernel_rfl) (by kernel_rfl) ?_
  refine L.alloc [.nilFunc] (by kernel_rfl : lookAt _ _ _ _ = some ((Op.alloc 147), some 5)) (by kernel_rfl) ?_
  intro b141 w142 hs143 hz144 E145 B146
  have hE147 := hE136.and0 E145
  have := E145.size
  have C148 := Kd.step (Kd.array 8 [] (Kd.slice Kd.str) rfl) C137 (nNew (fresh1 hs143) (nKeep (nKeep same))) E145 no0
  have B149 := B138.eff0 E145
  have B150 := B139.eff0 E145
  have B151 := B135.eff0 E145
  have hM152 : Mok ([b141] ++ ([b130] ++ ([b110] ++ []))) w142 := hM140.step E145 (nNew (flt1 (b := b141) (by omega)) (nKeep (nKeep same)))
  refine L.store 0 [.func (.func 89) #[] #[.pointer (some ⟨b130, 0, none⟩)]] [.func (.func 89) #[] #[.pointer (some ⟨b130, 0, none⟩)]] (by kernel_rfl : lookAt _ _ _ _ = some ((Op.store 147 (Operand.tmp 5) (Operand.tmp 13)), none)) (by kernel_rfl) B146 (by kernel_rfl) (by kernel_rfl) (by kernel_rfl) (one_of_all (by kernel_rfl)) (by kernel_rfl) ?_
  intro w153 E154 hz155 B156
  have hE157 := hE147.and1 E154 (by omega)
  have := E154.size
  have C158 := Kd.step (Kd.array 8 [] (Kd.slice Kd.str) rfl) C148 same E154 (in1 (List.mem_append_left _ (List.mem_singleton.2 rfl)))
  have B159 := B149.eff1 E154 (by omega)
  have B160 := B150.eff1 E154 (by omega)
  have B161 := B151.eff1 E154 (by omega)
  have hM162 := hM152.eff E154
  refine L.done ?_
  show S _ _ _ c58_n14 _ _ _ _
  refine S.seq (x := c58_n15) (y := c58_n45) (by kernel_rfl) ?_
  refine S.seq (x := c58_n16) (y := c58_n17) (by kernel_rfl) ?_
  refine S.reg (ops := o58_n16) (js := [0, 1]) (by kernel_rfl) (by kernel_rfl) ?_
  refine L.val (.agg #[v101, v102, v103, v104, v105, v106, v107, v108]) (by kernel_rfl : lookAt _ _ _ _ = some ((Op.load 32 (Operand.tmp 1)), some 14)) (by intro c e; cases e) (rx_load 0 (.agg #[v101, v102, v103, v104, v105, v106, v107, v108]) (B160.cells) (by kernel_rfl) (by kernel_rfl)) ?_
  refine L.call (f := 81) (by kernel_rfl : lookAt _ _ _ _ = some ((Op.call { callee := (Callee.value (Operand.func 81)), args := #[(Operand.tmp 14)], argTypes := #[32] }), some 15)) e81 (by kernel_rfl) (fields_ok [v101, v102, v103, v104, v105, v106, v107, v108] c _ (Kd.wk0 kCt ⟨_, _, _, _, _, _, _, _, rfl, C158⟩)) ?_
  rintro _ w164 E165 ⟨b167, b168, rfl, B169, B170, hb171, hb172, hb173⟩
  have nm174 := not_mem_of_ge (b := b167) hM162 hb171
  have hE175 := hE157.and0 E165
  have := E165.size
  have C176 := Kd.step (Kd.array 8 [] (Kd.slice Kd.str) rfl) C158 same E165 no0
  have B177 := B159.eff0 E165
  have B178 := B160.eff0 E165
  have B179 := B161.eff0 E165
  have B180 := B156.eff0 E165
  have hM181 := hM162.eff E165
  have := B169.lt
  have := B170.lt
  have nm182 : b168 ∉ ([b141] ++ ([b130] ++ ([b110] ++ []))) := not_mem_of_ge hM162 hb172
  have hlenR183 : c.length = 8 := C176.2.1
  have B184 : Blk w164 b167 [.slice (some ⟨b168, 0, none⟩) c.length 8] 178 := by rw [hlenR183]; exact B169
  have R183 := Sl.ofArr B170 nm182 C176 (by omega)
  refine L.done ?_
  show S _ _ _ c58_n17 _ _ _ _
  refine S.block (id := 0) (x := c58_n18) (by kernel_rfl) ?_
  have hr : rightF c = true := by cases h0 : rightF c <;> simp_all
  have O189 : Own Kd.byte 5 w.heap.size ([b141] ++ ([b130] ++ ([b110] ++ []))) w164 (.slice none 0 0) [] := Own.nil _ _ _ _ _
  have R190 : (Kd.array 8 [] (Kd.slice Kd.str) rfl).R (ob (.slice none 0 0) ++ ([b141] ++ ([b130] ++ ([b110] ++ [])))) w164 [v101, v102, v103, v104, v105, v106, v107, v108] c := C176
  have nm191 : b167 ∉ ob (.slice none 0 0) ++ ([b141] ++ ([b130] ++ ([b110] ++ []))) := nm174
  have R192 : Sl (Kd.slice Kd.str) (ob (.slice none 0 0) ++ ([b141] ++ ([b130] ++ ([b110] ++ [])))) w164 (some ⟨b168, 0, none⟩) c := R183
  have hM193 : Mok (ob (.slice none 0 0) ++ ([b141] ++ ([b130] ++ ([b110] ++ [])))) w164 := hM181
  have := B177.lt
  have := B178.lt
  have := B179.lt
  have := B180.lt
  have := B184.lt
  obtain ⟨D185, hD187⟩ : ∃ D, w164.heap.size = D := ⟨_, rfl⟩
  obtain ⟨l186, hl188⟩ : ∃ l, D185 + 1 = l := ⟨_, rfl⟩
  refine S.range (α := Nat × List Str) (g := (Operand.tmp 15)) (ps := #[16, 17]) (assign := c58_n19) (body := c58_n22) (gf := 149) (lb := #[.pointer (some ⟨b167, 0, none⟩)]) false D185 l186 (encRow Kd.str (some ⟨b168, 0, none⟩) c) (nxL c) (finL c) (fun N m pre w' => ∃ (p1 : Value) (a194 : Option Addr) (cap195 : Nat) (out : List UInt8), m ≤ w'.heap.size ∧ (∀ b, b ∈ [l186] ++ ([D185] ++ (ob (.slice a194 out.length cap195) ++ ([b141] ++ ([b130] ++ ([b110] ++ []))))) → b < m) ∧ l186 < w'.heap.size ∧ (p1 = .pointer none ∨ p1 = .pointer (some ⟨b130, 0, none⟩)) ∧ (out = textN c pre.length) ∧ (out.length ≤ pre.length * 10000) ∧ (Kd.array 8 [] (Kd.slice Kd.str) rfl).R ([l186] ++ ([D185] ++ (ob (.slice a194 out.length cap195) ++ ([b141] ++ ([b130] ++ ([b110] ++ [])))))) w' [v101, v102, v103, v104, v105, v106, v107, v108] c ∧ TabP w' ∧ Blk w' b110 ([v101, v102, v103, v104, v105, v106, v107, v108]) 32 ∧ Blk w' b130 ([p1, .slice a194 out.length cap195]) 142 ∧ Blk w' b141 ([.func (.func 89) #[] #[.pointer (some ⟨b130, 0, none⟩)]]) 147 ∧ Blk w' b167 ([.slice (some ⟨b168, 0, none⟩) c.length 8]) 178 ∧ b167 ∉ [l186] ++ ([D185] ++ (ob (.slice a194 out.length cap195) ++ ([b141] ++ ([b130] ++ ([b110] ++ []))))) ∧ Sl (Kd.slice Kd.str) ([l186] ++ ([D185] ++ (ob (.slice a194 out.length cap195) ++ ([b141] ++ ([b130] ++ ([b110] ++ [])))))) w' (some ⟨b168, 0, none⟩) c ∧ Own Kd.byte 5 w.heap.size ([l186] ++ ([D185] ++ ([b141] ++ ([b130] ++ ([b110] ++ []))))) w' (.slice a194 out.length cap195) out ∧ Eff [] w w' ∧ True) (fun e w' => False) (by kernel_rfl) (by kernel_rfl) e149 (by kernel_rfl) hD187 hl188 ?_ ?_ ?_ nofun nofun ?_ ?_ ?_ ?_ ?_
  ·intro w196 E197 hs198
   have hE199 := hE175.and0 E197
   have := E197.size
   have C200 := Kd.step (Kd.array 8 [] (Kd.slice Kd.str) rfl) R190 (nNew (fresh1' (b := l186) (by omega)) (nNew (fresh1' (b := D185) (by omega)) (nKeep (nKeep (nKeep (nKeep same)))))) E197 no0
   have B201 := B177.eff0 E197
   have B202 := B178.eff0 E197
   have B203 := B179.eff0 E197
   have B204 := B180.eff0 E197
   have nm206 := ninN nm191 B184.lt (nNew (fresh1' (b := l186) (by omega)) (nNew (fresh1' (b := D185) (by omega)) (nKeep (nKeep (nKeep (nKeep same))))))
   have B205 := B184.eff0 E197
   have R207 := R192.step (nNew (fresh1' (b := l186) (by omega)) (nNew (fresh1' (b := D185) (by omega)) (nKeep (nKeep (nKeep (nKeep same)))))) E197 no0
   have O208 := O189.step (nNew (fresh1' (b := l186) (by omega)) (nNew (fresh1' (b := D185) (by omega)) (nKeep (nKeep (nKeep same))))) E197 no0
   have hM209 : Mok ([l186] ++ ([D185] ++ (ob (.slice none 0 0) ++ ([b141] ++ ([b130] ++ ([b110] ++ [])))))) w196 := hM193.step E197 (nNew (flt1 (b := l186) (by omega)) (nNew (flt1 (b := D185) (by omega)) (nKeep (nKeep (nKeep (nKeep same))))))
   exact ⟨.pointer none, none, 0, [], (Nat.le_refl _), hM209, (by omega), (by exact .inl rfl), (by rfl), (by omega), C200, B201, B202, B203, B204, B205, nm206, R207, O208, hE199, trivial⟩
  ·rintro N216 m215 pre w210 w211 ⟨p1, a194, cap195, out, hm217, hb218, hlt219, hp1, hout, hol, F220, F221, F222, F223, F224, F225, nm226, F227, O228, hE229, -⟩ E212 hs213 hlt214
   have hE230 := hE229.and1 E212 (by omega)
   have := E212.size
   have C231 := Kd.step (Kd.array 8 [] (Kd.slice Kd.str) rfl) F220 same E212 (in1 (List.mem_append_left _ (List.mem_singleton.2 rfl)))
   have B232 := F221.eff1 E212 (by omega)
   have B233 := F222.eff1 E212 (by omega)
   have B234 := F223.eff1 E212 (by omega)
   have B235 := F224.eff1 E212 (by omega)
   have B236 := F225.eff1 E212 (by omega)
   have R237 := F227.step same E212 (in1 (List.mem_append_left _ (List.mem_singleton.2 rfl)))
   have O238 := O228.step same E212 (in1 (List.mem_append_left _ (List.mem_singleton.2 rfl)))
   have hM239 := (bnd_mok hb218 hm217).eff E212
   exact ⟨p1, a194, cap195, out, (Nat.le_trans hm217 E212.size), hb218, (Nat.lt_of_lt_of_le hlt219 E212.size), (by exact hp1), (by exact hout), (by exact hol), C231, B232, B233, B234, B235, B236, nm226, R237, O238, hE230, trivial⟩
  ·rintro N246 m245 pre w240 w241 ⟨p1, a194, cap195, out, hm247, hb248, hlt249, hp1, hout, hol, F250, F251, F252, F253, F254, F255, nm256, F257, O258, hE259, -⟩ E242
   have hE260 := hE259.and0 E242
   have := E242.size
   have C261 := Kd.step (Kd.array 8 [] (Kd.slice Kd.str) rfl) F250 same E242 no0
   have B262 := F251.eff0 E242
   have B263 := F252.eff0 E242
   have B264 := F253.eff0 E242
   have B265 := F254.eff0 E242
   have B266 := F255.eff0 E242
   have R267 := F257.step same E242 no0
   have O268 := O258.step same E242 no0
   have hM269 := (bnd_mok hb248 hm247).eff E242
   exact ⟨p1, a194, cap195, out, (Nat.le_trans hm247 E242.size), hb248, (Nat.lt_of_lt_of_le hlt249 E242.size), (by exact hp1), (by exact hout), (by exact hol), C261, B262, B263, B264, B265, B266, nm256, R267, O268, hE260, trivial⟩
  ·rintro e w1 w2 h
   exact h.elim
  ·intro w275 J' hs276 E277 hJ278 hst279 _ _
   refine all_seq b167 (some ⟨b168, 0, none⟩) 8 c J' _ (fun N m pre w h => ?_)
   obtain ⟨p1, a194, cap195, out, hm280, hb281, hlt282, hp1, hout, hol, F283, F284, F285, F286, F287, F288, nm289, F290, O291, hE292, -⟩ := hJ278 N m pre w h
   exact ⟨F288, F290.wk0⟩
  ·rintro N296 m295 pre x args w293 ⟨p1, a194, cap195, out, hm297, hb298, hlt299, hp1, hout, hol, F300, F301, F302, F303, F304, F305, nm306, F307, O308, hE309, -⟩ hx he hlt294
   have hM310 : Mok ([l186] ++ ([D185] ++ (ob (.slice a194 out.length cap195) ++ ([b141] ++ ([b130] ++ ([b110] ++ [])))))) w293 := (bnd_mok hb298 hm297)
   obtain ⟨_, x314⟩ := x
   obtain ⟨rfl, hx315, hlt316, hq317⟩ := hx
   obtain ⟨a311, cap312, rfl, hsub313⟩ := he
   have R318 := hsub313 _ F307
   have := F307.1
   replace hx315 : c[pre.length]? = some x314 := hx315
   refine ⟨rfl, ?_⟩
   have hC319 := Eff.refl [] w293
   obtain ⟨hxl, hxs⟩ := right_len hr hlen hx315
   have hnm := names_len pre.length
   show S _ _ _ c58_n19 _ _ _ _
   refine S.seq (x := c58_n20) (y := c58_n21) (by kernel_rfl) ?_
   refine S.reg (ops := o58_n20) (js := [0]) (by kernel_rfl) (by kernel_rfl) ?_
   refine L.runU [0] [] [(6, .int .i64 (((pre.length : Nat) : Int)))] (by kernel_rfl) (by kernel_rfl) ?_
   refine L.done ?_
   show S _ _ _ c58_n21 _ _ _ _
   refine S.reg (ops := o58_n21) (js := [0]) (by kernel_rfl) (by kernel_rfl) ?_
   refine L.runU [0] [] [(7, .slice a311 x314.length cap312)] (by kernel_rfl) (by kernel_rfl) ?_
   refine L.done ?_
   refine ⟨hC319, ?_⟩
   intro w320 E321 hs322
   have hE323 := hE309.and1 E321 (by omega)
   have := E321.size
   have C324 := Kd.step (Kd.array 8 [] (Kd.slice Kd.str) rfl) F300 same E321 (in1 (List.mem_append_left _ (List.mem_singleton.2 rfl)))
   have B325 := F301.eff1 E321 (by omega)
   have B326 := F302.eff1 E321 (by omega)
   have B327 := F303.eff1 E321 (by omega)
   have B328 := F304.eff1 E321 (by omega)
   have B329 := F305.eff1 E321 (by omega)
   have R330 := F307.step same E321 (in1 (List.mem_append_left _ (List.mem_singleton.2 rfl)))
   have O331 := O308.step same E321 (in1 (List.mem_append_left _ (List.mem_singleton.2 rfl)))
   have R332 := R318.step same E321 (in1 (List.mem_append_left _ (List.mem_singleton.2 rfl)))
   have hM333 := hM310.eff E321
   have hC334 := Eff.refl (ob (.slice a194 out.length cap195) ++ ([b141] ++ ([b130] ++ ([b110] ++ [1])))) w320
   have mm335 : ∀ x, x ∈ ob (.slice a194 out.length cap195) → x ∈ (ob (.slice a194 out.length cap195) ++ ([b141] ++ ([b130] ++ ([b110] ++ [1])))) ∨ w320.heap.size ≤ x := fun x hx => .inl (by simp [hx])
   show S _ _ _ c58_n22 _ _ _ _
   refine S.block (id := 1) (x := c58_n23) (by kernel_rfl) ?_
   refine S.join (x := c58_n24) (y := c58_n29) (fun σ' ds' w' => ∃ (p2 : Value) (a336 : Option Addr) (cap337 : Nat) (o2 : List UInt8), (p2 = .pointer none ∨ p2 = .pointer (some ⟨b130, 0, none⟩)) ∧ (o2 = textN c pre.length ++ headS pre.length x314) ∧ (o2.length ≤ pre.length * 10000 + 100) ∧ (Kd.array 8 [] (Kd.slice Kd.str) rfl).R ([l186] ++ ([D185] ++ (ob (.slice a336 o2.length cap337) ++ ([b141] ++ ([b130] ++ ([b110] ++ [])))))) w' [v101, v102, v103, v104, v105, v106, v107, v108] c ∧ TabP w' ∧ Blk w' b110 ([v101, v102, v103, v104, v105, v106, v107, v108]) 32 ∧ Blk w' b130 ([p2, .slice a336 o2.length cap337]) 142 ∧ Blk w' b141 ([.func (.func 89) #[] #[.pointer (some ⟨b130, 0, none⟩)]]) 147 ∧ Blk w' b167 ([.slice (some ⟨b168, 0, none⟩) c.length 8]) 178 ∧ b167 ∉ [l186] ++ ([D185] ++ (ob (.slice a336 o2.length cap337) ++ ([b141] ++ ([b130] ++ ([b110] ++ []))))) ∧ Sl (Kd.slice Kd.str) ([l186] ++ ([D185] ++ (ob (.slice a336 o2.length cap337) ++ ([b141] ++ ([b130] ++ ([b110] ++ [])))))) w' (some ⟨b168, 0, none⟩) c ∧ Sl Kd.str ([l186] ++ ([D185] ++ (ob (.slice a336 o2.length cap337) ++ ([b141] ++ ([b130] ++ ([b110] ++ [])))))) w' a311 x314 ∧ Own Kd.byte 5 w.heap.size ([l186] ++ ([D185] ++ ([b141] ++ ([b130] ++ ([b110] ++ []))))) w' (.slice a336 o2.length cap337) o2 ∧ Mok ([l186] ++ ([D185] ++ (ob (.slice a336 o2.length cap337) ++ ([b141] ++ ([b130] ++ ([b110] ++ [])))))) w' ∧ Eff [] w w' ∧ Eff (ob (.slice a194 out.length cap195) ++ ([b141] ++ ([b130] ++ ([b110] ++ [1])))) w320 w' ∧ (∀ x, x ∈ ob (.slice a336 o2.length cap337) → x ∈ (ob (.slice a194 out.length cap195) ++ ([b141] ++ ([b130] ++ ([b110] ++ [1])))) ∨ w320.heap.size ≤ x) ∧ w320.heap.size ≤ w'.heap.size ∧ ds' = [] ∧ ∃ u, σ' = slots u [(2, sv []), (3, .int .i64 0), (5, .pointer (some ⟨b141, 0, none⟩)), (7, .slice a311 x314.length cap312)]) (by kernel_rfl) ?_ ?_
   ·refine S.seq (x := c58_n25) (y := c58_n26) (by kernel_rfl) ?_
    refine S.reg (ops := o58_n25) (js := [0, 1, 2]) (by kernel_rfl) (by kernel_rfl) ?_
    refine L.runU [0, 1, 2] [] [(18, .slice a311 x314.length cap312), (19, .int .i64 (((x314.length : Nat) : Int))), (20, .bool (decide (0 < ((x314.length : Nat) : Int))))] (by kernel_rfl) (by kernel_rfl) ?_
    refine L.done ?_
    show S _ _ _ c58_n26 _ _ _ _
    refine S.condP (0 < ((x314.length : Nat) : Int)) (o := (Operand.tmp 20)) (x := c58_n27) (y := c58_n28) (by kernel_rfl) (by kernel_rfl) (fun h341 => ?_) (fun h341 => ?_)
    ·refine S.draw (ops := o58_n27) (Eff (ob (.slice a194 out.length cap195) ++ [b130])) 8 #[false, false, false, false, false, false, false, false] (by kernel_rfl) (by kernel_rfl) (by kernel_rfl) (by kernel_rfl) ?_
     intro w342 E343 hw344
     have hE346 := hE323.and0 E343
     have := E343.size
     have hC347 := hC334.and0 E343
     have C348 := Kd.step (Kd.array 8 [] (Kd.slice Kd.str) rfl) C324 same E343 no0
     have B349 := B325.eff0 E343
     have B350 := B326.eff0 E343
     have B351 := B327.eff0 E343
     have B352 := B328.eff0 E343
     have B353 := B329.eff0 E343
     have R354 := R330.step same E343 no0
     have O355 := O331.step same E343 no0
     have R356 := R332.step same E343 no0
     have hM357 := hM333.eff E343
     have hS345 := Eff.refl (ob (.slice a194 out.length cap195) ++ [b130]) w342
     have mm358 : ∀ x, x ∈ ob (.slice a194 out.length cap195) → x ∈ ob (.slice a194 out.length cap195) ++ [b130] ∨ w342.heap.size ≤ x := fun x hx => .inl (by simp [hx])
     refine D.take 0 (.func (.func 89) #[] #[.pointer (some ⟨b130, 0, none⟩)]) (some 21) #[true, false, false, false, false, false, false, false] (by kernel_rfl) (by kernel_rfl) (by kernel_rfl) (fun _ _ _ _ h => h) (.val (n := 43) (by kernel_rfl : lookAt _ _ _ _ = some ((Op.load 147 (Operand.tmp 5)), some 21)) (by intro c e; cases e) (fun _ h => rx_load 0 (.func (.func 89) #[] #[.pointer (some ⟨b130, 0, none⟩)]) ((B352.eff h (nin (O355.apart (List.mem_append_right _ (List.mem_append_right _ (List.mem_append_left _ (List.mem_singleton.2 rfl))))) (notin1 (by omega)))).cells) (by kernel_rfl) (by kernel_rfl))) hS345 ?_
     refine D.take 2 (.int .i64 (((pre.length : Nat) : Int))) (some 23) #[true, false, true, false, false, false, false, false] (by kernel_rfl) (by kernel_rfl) (by kernel_rfl) (fun _ _ _ _ h => h) (.pure (n := 43) (by kernel_rfl)) hS345 ?_
     refine D.take 4 (.slice a311 x314.length cap312) (some 25) #[true, false, true, false, true, false, false, false] (by kernel_rfl) (by kernel_rfl) (by kernel_rfl) (fun _ _ _ _ h => h) (.pure (n := 43) (by kernel_rfl)) hS345 ?_
     refine D.take 5 (.int .i64 (((x314.length : Nat) : Int))) (some 26) #[true, false, true, false, true, true, false, false] (by kernel_rfl) (by kernel_rfl) (by kernel_rfl) (fun _ _ _ _ h => h) (.pure (n := 43) (by kernel_rfl)) hS345 ?_
     refine D.all [1] (by kernel_rfl) (by kernel_rfl) ⟨?_, trivial⟩
     refine L.call (f := 91) (by kernel_rfl : lookAt _ _ _ _ = some ((Op.call { callee := (Callee.value (Operand.func 91)), args := #[], argTypes := #[] }), some 22)) e91 (by kernel_rfl) (names_ok _) ?_
     rintro _ w360 E361 rfl
     have hE363 := hE346.and0 E361
     have := E361.size
     have hS364 := hS345.and0 E361
     have hC365 := hC347.and0 E361
     have C366 := Kd.step (Kd.array 8 [] (Kd.slice Kd.str) rfl) C348 same E361 no0
     have B367 := B349.eff0 E361
     have B368 := B350.eff0 E361
     have B369 := B351.eff0 E361
     have B370 := B352.eff0 E361
     have B371 := B353.eff0 E361
     have R372 := R354.step same E361 no0
     have O373 := O355.step same E361 no0
     have R374 := R356.step same E361 no0
     have hM375 := hM357.eff E361
     refine ⟨hS364, ?_⟩
     refine D.take 3 (sv (fieldNames.getD pre.length [])) (some 24) #[true, true, true, true, true, true, false, false] (by kernel_rfl) (by kernel_rfl) (by kernel_rfl) (fun _ _ _ _ h => h) (.val (n := 43) (by kernel_rfl : lookAt _ _ _ _ = some ((Op.index 148 (Operand.tmp 22) (Operand.tmp 23)), some 24)) (by intro c e; cases e) (fun _ h => rx_aggIndex (e := 9) (m := 8) (kk := .i64) (i := ((pre.length : Nat) : Int)) pre.length (sv (fieldNames.getD pre.length [])) (by kernel_rfl) (by kernel_rfl) (by kernel_rfl) (by kernel_rfl) (by kernel_rfl) (by omega) (by omega) (svs_at (by show _ < 8; omega)))) hS364 ?_
     refine D.all [6] (by kernel_rfl) (by kernel_rfl) ⟨?_, trivial⟩
     refine L.call (f := 92) (by kernel_rfl : lookAt _ _ _ _ = some ((Op.call { callee := (Callee.value (Operand.func 92)), args := #[(Operand.tmp 26)], argTypes := #[3] }), some 27)) e92 (by kernel_rfl) (itoa_ok (((x314.length : Nat) : Int)) _ (by omega) (by omega) B367) ?_
     rintro _ w377 E378 rfl
     have hE380 := hE363.and0 E378
     have := E378.size
     have hS381 := hS364.and0 E378
     have hC382 := hC365.and0 E378
     have C383 := Kd.step (Kd.array 8 [] (Kd.slice Kd.str) rfl) C366 same E378 no0
     have B384 := B367.eff0 E378
     have B385 := B368.eff0 E378
     have B386 := B369.eff0 E378
     have B387 := B370.eff0 E378
     have B388 := B371.eff0 E378
     have R389 := R372.step same E378 no0
     have O390 := O373.step same E378 no0
     have R391 := R374.step same E378 no0
     have hM392 := hM375.eff E378
     refine ⟨hS381, ?_⟩
     refine D.all [7] (by kernel_rfl) (by kernel_rfl) ⟨?_, trivial⟩
     refine L.call (f := 89) (by kernel_rfl : lookAt _ _ _ _ = some ((Op.call { callee := (Callee.value (Operand.tmp 21)), args := #[(Operand.tmp 24), (Operand.tmp 27)], argTypes := #[9, 9] }), some 28)) e89 (by kernel_rfl) (line_ok ([l186] ++ ([D185] ++ ([b141] ++ ([b130] ++ ([b110] ++ []))))) b130 w.heap.size (p1) a194 cap195 out (fieldNames.getD pre.length []) (Lib.itoa (((x314.length : Nat) : Int))) _ (hM392.sub (sKeep (sKeep (sDrop sSame)))) (List.mem_append_right _ (List.mem_append_right _ (List.mem_append_right _ (List.mem_append_left _ (List.mem_singleton.2 rfl))))) B386 hp1 O390 hE380.size (by simp only [lineS, List.length_append, List.length_cons, List.length_nil]; have := itoa_len (m := x314.length) (by omega); omega)) ?_
     rintro _ w399 E400 ⟨rfl, a393, cap394, B395, O396, hat397⟩
     have hE402 := hE380.andMem E400 (memApp (memOwn O390 (Nat.le_refl _)) (mem1 (by omega)))
     have := E400.size
     have hS403 := hS381.andMem E400 (memApp mm358 (memIn (in1 (by simp))))
     have mm404 := memN (base := w342.heap.size) mm358 hat397 (by omega)
     have hC405 := hC382.andMem E400 (memApp mm335 (memIn (in1 (by simp))))
     have mm406 := memN (base := w320.heap.size) mm335 hat397 (by omega)
     have C407 := Kd.step (Kd.array 8 [] (Kd.slice Kd.str) rfl) C383 (nKeep (nKeep (nTurn hat397 (nKeep (nKeep (nKeep same)))))) E400 (sApp (fun _ h => List.mem_append_right _ (List.mem_append_right _ (List.mem_append_left _ (h)))) (in1 (List.mem_append_right _ (List.mem_append_right _ (List.mem_append_right _ (List.mem_append_right _ (List.mem_append_left _ (List.mem_singleton.2 rfl))))))))
     have B408 := B384.eff E400 (nin (fun h => absurd (O390.lt _ h).1 (by omega)) (notin1 (by omega)))
     have B409 := B385.eff E400 (nin (O390.apart (List.mem_append_right _ (List.mem_append_right _ (List.mem_append_right _ (List.mem_append_right _ (List.mem_append_left _ (List.mem_singleton.2 rfl))))))) (notin1 (by omega)))
     have B410 := B387.eff E400 (nin (O390.apart (List.mem_append_right _ (List.mem_append_right _ (List.mem_append_left _ (List.mem_singleton.2 rfl))))) (notin1 (by omega)))
     have nm412 := ninN nm306 B388.lt (nKeep (nKeep (nTurn hat397 (nKeep (nKeep (nKeep same))))))
     have B411 := B388.eff E400 (nin (fun h => nm306 (List.mem_append_right _ (List.mem_append_right _ (List.mem_append_left _ (h))))) (notin1 (by omega)))
     have R413 := R389.step (nKeep (nKeep (nTurn hat397 (nKeep (nKeep (nKeep same)))))) E400 (sApp (fun _ h => List.mem_append_right _ (List.mem_append_right _ (List.mem_append_left _ (h)))) (in1 (List.mem_append_right _ (List.mem_append_right _ (List.mem_append_right _ (List.mem_append_right _ (List.mem_append_left _ (List.mem_singleton.2 rfl))))))))
     have R414 := R391.step (nKeep (nKeep (nTurn hat397 (nKeep (nKeep (nKeep same)))))) E400 (sApp (fun _ h => List.mem_append_right _ (List.mem_append_right _ (List.mem_append_left _ (h)))) (in1 (List.mem_append_right _ (List.mem_append_right _ (List.mem_append_right _ (List.mem_append_right _ (List.mem_append_left _ (List.mem_singleton.2 rfl))))))))
     have hM415 : Mok ([l186] ++ ([D185] ++ (ob (.slice a393 ((out ++ (lineS (fieldNames.getD pre.length []) (Lib.itoa (((x314.length : Nat) : Int))))).length) cap394) ++ ([b141] ++ ([b130] ++ ([b110] ++ [])))))) w399 := hM392.step E400 (nKeep (nKeep (nTurn (fun b hb => .inr ((fun b hb => (O396.lt b hb).2) b hb)) (nKeep (nKeep (nKeep same))))))
     refine ⟨hS403, ?_⟩
     refine D.done _ (by kernel_rfl) ?_
     exact ⟨(.pointer (some ⟨b130, 0, none⟩)), a393, cap394, out ++ (lineS (fieldNames.getD pre.length []) (Lib.itoa (((x314.length : Nat) : Int)))), (by exact (.inr rfl)), (by first | (have h0 : 0 < x314.length := (by omega); rw [hout, headS, if_pos h0]) | (have h0 : ¬ 0 < x314.length := (by omega); rw [hout, headS, if_neg h0, List.append_nil])), (by first | exact Nat.le_trans hol (Nat.le_add_right _ _) | (simp only [lineS, List.length_append, List.length_cons, List.length_nil]; have := itoa_len (m := x314.length) (by omega); omega)), C407, B408, B409, B395, B410, B411, nm412, R413, R414, O396, hM415, hE402, hC405, mm406, (by omega), rfl, _, Holds.eq (l := [(2, sv []), (3, .int .i64 0), (5, .pointer (some ⟨b141, 0, none⟩)), (7, .slice a311 x314.length cap312)]) ⟨by kernel_rfl, by kernel_rfl, by kernel_rfl, by kernel_rfl, trivial⟩⟩
    ·refine S.skip (by kernel_rfl) ?_
     exact ⟨(p1), a194, cap195, out, (by exact hp1), (by first | (have h0 : 0 < x314.length := (by omega); rw [hout, headS, if_pos h0]) | (have h0 : ¬ 0 < x314.length := (by omega); rw [hout, headS, if_neg h0, List.append_nil])), (by first | exact Nat.le_trans hol (Nat.le_add_right _ _) | (simp only [lineS, List.length_append, List.length_cons, List.length_nil]; have := itoa_len (m := x314.length) (by omega); omega)), C324, B325, B326, B327, B328, B329, nm306, R330, R332, O331, hM333, hE323, hC334, mm335, (Nat.le_refl _), rfl, _, Holds.eq (l := [(2, sv []), (3, .int .i64 0), (5, .pointer (some ⟨b141, 0, none⟩)), (7, .slice a311 x314.length cap312)]) ⟨by kernel_rfl, by kernel_rfl, by kernel_rfl, by kernel_rfl, trivial⟩⟩
   rintro σ' ds' w338 ⟨p2, a336, cap337, o2, hp2, ho2, hl2, F417, F418, F419, F420, F421, F422, nm423, F424, F425, O426, hM427, hE428, hC429, mm430, hz431, rfl, u340, rfl⟩
   refine S.seq (x := c58_n30) (y := c58_n31) (by kernel_rfl) ?_
   refine S.reg (ops := o58_n30) (js := [0, 1, 2]) (by kernel_rfl) (by kernel_rfl) ?_
   refine L.runU [0, 1, 2] [] [(29, .slice a311 x314.length cap312), (30, .int .i64 (((x314.length : Nat) : Int))), (31, .int .i64 0)] (by kernel_rfl) (by kernel_rfl) ?_
   refine L.done ?_
   show S _ _ _ c58_n31 _ _ _ _
   refine S.block (id := 2) (x := c58_n32) (by kernel_rfl) ?_
   refine S.loop (x := c58_n33) (fun m σ' ds' w' => ∃ (k : Nat) (p3 : Value) (a432 : Option Addr) (cap433 : Nat) (o3 : List UInt8), m = x314.length - k ∧ (p3 = .pointer none ∨ p3 = .pointer (some ⟨b130, 0, none⟩)) ∧ (k ≤ x314.length) ∧ (o3 = textN c pre.length ++ headS pre.length x314 ++ linesN x314 k) ∧ (o3.length ≤ pre.length * 10000 + 100 + k * 1000) ∧ (Kd.array 8 [] (Kd.slice Kd.str) rfl).R ([l186] ++ ([D185] ++ (ob (.slice a432 o3.length cap433) ++ ([b141] ++ ([b130] ++ ([b110] ++ [])))))) w' [v101, v102, v103, v104, v105, v106, v107, v108] c ∧ TabP w' ∧ Blk w' b110 ([v101, v102, v103, v104, v105, v106, v107, v108]) 32 ∧ Blk w' b130 ([p3, .slice a432 o3.length cap433]) 142 ∧ Blk w' b141 ([.func (.func 89) #[] #[.pointer (some ⟨b130, 0, none⟩)]]) 147 ∧ Blk w' b167 ([.slice (some ⟨b168, 0, none⟩) c.length 8]) 178 ∧ b167 ∉ [l186] ++ ([D185] ++ (ob (.slice a432 o3.length cap433) ++ ([b141] ++ ([b130] ++ ([b110] ++ []))))) ∧ Sl (Kd.slice Kd.str) ([l186] ++ ([D185] ++ (ob (.slice a432 o3.length cap433) ++ ([b141] ++ ([b130] ++ ([b110] ++ [])))))) w' (some ⟨b168, 0, none⟩) c ∧ Sl Kd.str ([l186] ++ ([D185] ++ (ob (.slice a432 o3.length cap433) ++ ([b141] ++ ([b130] ++ ([b110] ++ [])))))) w' a311 x314 ∧ Own Kd.byte 5 w.heap.size ([l186] ++ ([D185] ++ ([b141] ++ ([b130] ++ ([b110] ++ []))))) w' (.slice a432 o3.length cap433) o3 ∧ Mok ([l186] ++ ([D185] ++ (ob (.slice a432 o3.length cap433) ++ ([b141] ++ ([b130] ++ ([b110] ++ [])))))) w' ∧ Eff [] w w' ∧ Eff (ob (.slice a194 out.length cap195) ++ ([b141] ++ ([b130] ++ ([b110] ++ [1])))) w320 w' ∧ (∀ x, x ∈ ob (.slice a432 o3.length cap433) → x ∈ (ob (.slice a194 out.length cap195) ++ ([b141] ++ ([b130] ++ ([b110] ++ [1])))) ∨ w320.heap.size ≤ x) ∧ w338.heap.size ≤ w'.heap.size ∧ ds' = [] ∧ ∃ u, σ' = slots u [(2, sv []), (3, .int .i64 0), (5, .pointer (some ⟨b141, 0, none⟩)), (29, .slice a311 x314.length cap312), (30, .int .i64 (((x314.length : Nat) : Int))), (31, .int .i64 (((k : Nat) : Int)))]) (x314.length - 0) (by kernel_rfl) ⟨0, (p2), a336, cap337, o2, rfl, (by exact hp2), (by omega), (by rw [ho2]; simp [linesN]), (by omega), F417, F418, F419, F420, F421, F422, nm423, F424, F425, O426, hM427, hE428, hC429, mm430, (Nat.le_refl _), rfl, _, Holds.eq (l := [(2, sv []), (3, .int .i64 0), (5, .pointer (some ⟨b141, 0, none⟩)), (29, .slice a311 x314.length cap312), (30, .int .i64 (((x314.length : Nat) : Int))), (31, .int .i64 0)]) ⟨by kernel_rfl, by kernel_rfl, by kernel_rfl, by kernel_rfl, by kernel_rfl, by kernel_rfl, trivial⟩⟩ ?_
   rintro m435 σ' ds' w434 ⟨k, p3, a432, cap433, o3, hm437, hp3, hk, hho, ho3, F438, F439, F440, F441, F442, F443, nm444, F445, F446, O447, hM448, hE449, hC450, mm451, hz452, rfl, u436, rfl⟩
   refine S.seq (x := c58_n34) (y := c58_n35) (by kernel_rfl) ?_
   refine S.reg (ops := o58_n34) (js := [0]) (by kernel_rfl) (by kernel_rfl) ?_
   refine L.runU [0] [] [(32, .bool (decide (((k : Nat) : Int) < ((x314.length : Nat) : Int))))] (by kernel_rfl) (by kernel_rfl) ?_
   refine L.done ?_
   show S _ _ _ c58_n35 _ _ _ _
   refine S.seq (x := c58_n36) (y := c58_n39) (by kernel_rfl) ?_
   refine S.condP (((k : Nat) : Int) < ((x314.length : Nat) : Int)) (o := (Operand.tmp 32)) (x := c58_n37) (y := c58_n38) (by kernel_rfl) (by kernel_rfl) (fun h453 => ?_) (fun h453 => ?_)
   ·refine S.skip (by kernel_rfl) ?_
    show S _ _ _ c58_n39 _ _ _ _
    refine S.seq (x := c58_n40) (y := c58_n44) (by kernel_rfl) ?_
    refine S.block (id := 3) (x := c58_n41) (by kernel_rfl) ?_
    refine S.seq (x := c58_n42) (y := c58_n43) (by kernel_rfl) ?_
    refine S.reg (ops := o58_n42) (js := [0, 1, 2]) (by kernel_rfl) (by kernel_rfl) ?_
    obtain ⟨x457, hx458⟩ : ∃ x, (x314)[k]? = some x := ⟨_, List.getElem?_eq_getElem (by omega)⟩
    obtain ⟨p454, _, hp455, A456, ⟨rfl, hl459⟩⟩ := F446.open_ hx458
    have A460 : CAt ([l186] ++ ([D185] ++ (ob (.slice a432 o3.length cap433) ++ ([b141] ++ ([b130] ++ ([b110] ++ [])))))) w434 (p454.add k) [sv x457] := by have h := A456; rw [show k * (Kd.str).sz = k from Nat.mul_one _] at h; exact h
    refine L.val (.pointer (some (p454.add k))) (by kernel_rfl : lookAt _ _ _ _ = some ((Op.indexAddr 30 (Operand.tmp 29) (Operand.tmp 31)), some 33)) (by intro c e; cases e) (rx_indexAddr (e := 9) (sz := 1) (a := a311) (p := p454) (len := x314.length) (cap := cap312) (kk := .i64) (i := ((k : Nat) : Int)) k k (by kernel_rfl) hp455 (by kernel_rfl) (by kernel_rfl) (by kernel_rfl) (by omega) (by omega) (by omega)) ?_
    refine L.val (sv x457) (by kernel_rfl : lookAt _ _ _ _ = some ((Op.load 9 (Operand.tmp 33)), some 34)) (by intro c e; cases e) (rx_load 0 (sv x457) (A460.1) (by kernel_rfl) (by kernel_rfl)) ?_
    refine L.runU [2] [] [(9, sv x457)] (by kernel_rfl) (by kernel_rfl) ?_
    refine L.done ?_
    show S _ _ _ c58_n43 _ _ _ _
    refine S.draw (ops := o58_n43) (Eff (ob (.slice a432 o3.length cap433) ++ [b130])) 6 #[false, false, false, false, false, false] (by kernel_rfl) (by kernel_rfl) (by kernel_rfl) (by kernel_rfl) ?_
    intro w461 E462 hw463
    have hE465 := hE449.and0 E462
    have := E462.size
    have hC466 := hC450.and0 E462
    have C467 := Kd.step (Kd.array 8 [] (Kd.slice Kd.str) rfl) F438 same E462 no0
    have B468 := F439.eff0 E462
    have B469 := F440.eff0 E462
    have B470 := F441.eff0 E462
    have B471 := F442.eff0 E462
    have B472 := F443.eff0 E462
    have R473 := F445.step same E462 no0
    have R474 := F446.step same E462 no0
    have O475 := O447.step same E462 no0
    have A476 := A460.step same E462 no0
    have hM477 := hM448.eff E462
    have hS464 := Eff.refl (ob (.slice a432 o3.length cap433) ++ [b130]) w461
    have mm478 : ∀ x, x ∈ ob (.slice a432 o3.length cap433) → x ∈ ob (.slice a432 o3.length cap433) ++ [b130] ∨ w461.heap.size ≤ x := fun x hx => .inl (by simp [hx])
    refine D.take 0 (.func (.func 89) #[] #[.pointer (some ⟨b130, 0, none⟩)]) (some 35) #[true, false, false, false, false, false] (by kernel_rfl) (by kernel_rfl) (by kernel_rfl) (fun _ _ _ _ h => h) (.val (n := 43) (by kernel_rfl : lookAt _ _ _ _ = some ((Op.load 147 (Operand.tmp 5)), some 35)) (by intro c e; cases e) (fun _ h => rx_load 0 (.func (.func 89) #[] #[.pointer (some ⟨b130, 0, none⟩)]) ((B471.eff h (nin (O475.apart (List.mem_append_right _ (List.mem_append_right _ (List.mem_append_left _ (List.mem_singleton.2 rfl))))) (notin1 (by omega)))).cells) (by kernel_rfl) (by kernel_rfl))) hS464 ?_
    refine D.take 1 (sv x457) (some 36) #[true, true, false, false, false, false] (by kernel_rfl) (by kernel_rfl) (by kernel_rfl) (fun _ _ _ _ h => h) (.pure (n := 43) (by kernel_rfl)) hS464 ?_
    refine D.take 2 (.int .i64 (((x457.length : Nat) : Int))) (some 37) #[true, true, true, false, false, false] (by kernel_rfl) (by kernel_rfl) (by kernel_rfl) (fun _ _ _ _ h => h) (.pure (n := 43) (by kernel_rfl)) hS464 ?_
    refine D.take 4 (sv x457) (some 39) #[true, true, true, false, true, false] (by kernel_rfl) (by kernel_rfl) (by kernel_rfl) (fun _ _ _ _ h => h) (.pure (n := 43) (by kernel_rfl)) hS464 ?_
    refine D.all [3] (by kernel_rfl) (by kernel_rfl) ⟨?_, trivial⟩
    refine L.call (f := 92) (by kernel_rfl : lookAt _ _ _ _ = some ((Op.call { callee := (Callee.value (Operand.func 92)), args := #[(Operand.tmp 37)], argTypes := #[3] }), some 38)) e92 (by kernel_rfl) (itoa_ok (((x457.length : Nat) : Int)) _ (by omega) (by omega) B468) ?_
    rintro _ w480 E481 rfl
    have hE483 := hE465.and0 E481
    have := E481.size
    have hS484 := hS464.and0 E481
    have hC485 := hC466.and0 E481
    have C486 := Kd.step (Kd.array 8 [] (Kd.slice Kd.str) rfl) C467 same E481 no0
    have B487 := B468.eff0 E481
    have B488 := B469.eff0 E481
    have B489 := B470.eff0 E481
    have B490 := B471.eff0 E481
    have B491 := B472.eff0 E481
    have R492 := R473.step same E481 no0
    have R493 := R474.step same E481 no0
    have O494 := O475.step same E481 no0
    have A495 := A476.step same E481 no0
    have hM496 := hM477.eff E481
    refine ⟨hS484, ?_⟩
    refine D.all [5] (by kernel_rfl) (by kernel_rfl) ⟨?_, trivial⟩
    refine L.call (f := 89) (by kernel_rfl : lookAt _ _ _ _ = some ((Op.call { callee := (Callee.value (Operand.tmp 35)), args := #[(Operand.tmp 38), (Operand.tmp 39)], argTypes := #[9, 9] }), some 40)) e89 (by kernel_rfl) (line_ok ([l186] ++ ([D185] ++ ([b141] ++ ([b130] ++ ([b110] ++ []))))) b130 w.heap.size (p3) a432 cap433 o3 (Lib.itoa (((x457.length : Nat) : Int))) x457 _ (hM496.sub (sKeep (sKeep (sDrop sSame)))) (List.mem_append_right _ (List.mem_append_right _ (List.mem_append_right _ (List.mem_append_left _ (List.mem_singleton.2 rfl))))) B489 hp3 O494 hE483.size (by simp only [lineS, List.length_append, List.length_cons, List.length_nil]; have := hxs _ (List.mem_of_getElem? hx458); have := itoa_len (m := x457.length) (by omega); omega)) ?_
    rintro _ w503 E504 ⟨rfl, a497, cap498, B499, O500, hat501⟩
    have hE506 := hE483.andMem E504 (memApp (memOwn O494 (Nat.le_refl _)) (mem1 (by omega)))
    have := E504.size
    have hS507 := hS484.andMem E504 (memApp mm478 (memIn (in1 (by simp))))
    have mm508 := memN (base := w461.heap.size) mm478 hat501 (by omega)
    have hC509 := hC485.andMem E504 (memApp mm451 (memIn (in1 (by simp))))
    have mm510 := memN (base := w320.heap.size) mm451 hat501 (by omega)
    have C511 := Kd.step (Kd.array 8 [] (Kd.slice Kd.str) rfl) C486 (nKeep (nKeep (nTurn hat501 (nKeep (nKeep (nKeep same)))))) E504 (sApp (fun _ h => List.mem_append_right _ (List.mem_append_right _ (List.mem_append_left _ (h)))) (in1 (List.mem_append_right _ (List.mem_append_right _ (List.mem_append_right _ (List.mem_append_right _ (List.mem_append_left _ (List.mem_singleton.2 rfl))))))))
    have B512 := B487.eff E504 (nin (fun h => absurd (O494.lt _ h).1 (by omega)) (notin1 (by omega)))
    have B513 := B488.eff E504 (nin (O494.apart (List.mem_append_right _ (List.mem_append_right _ (List.mem_append_right _ (List.mem_append_right _ (List.mem_append_left _ (List.mem_singleton.2 rfl))))))) (notin1 (by omega)))
    have B514 := B490.eff E504 (nin (O494.apart (List.mem_append_right _ (List.mem_append_right _ (List.mem_append_left _ (List.mem_singleton.2 rfl))))) (notin1 (by omega)))
    have nm516 := ninN nm444 B491.lt (nKeep (nKeep (nTurn hat501 (nKeep (nKeep (nKeep same))))))
    have B515 := B491.eff E504 (nin (fun h => nm444 (List.mem_append_right _ (List.mem_append_right _ (List.mem_append_left _ (h))))) (notin1 (by omega)))
    have R517 := R492.step (nKeep (nKeep (nTurn hat501 (nKeep (nKeep (nKeep same)))))) E504 (sApp (fun _ h => List.mem_append_right _ (List.mem_append_right _ (List.mem_append_left _ (h)))) (in1 (List.mem_append_right _ (List.mem_append_right _ (List.mem_append_right _ (List.mem_append_right _ (List.mem_append_left _ (List.mem_singleton.2 rfl))))))))
    have R518 := R493.step (nKeep (nKeep (nTurn hat501 (nKeep (nKeep (nKeep same)))))) E504 (sApp (fun _ h => List.mem_append_right _ (List.mem_append_right _ (List.mem_append_left _ (h)))) (in1 (List.mem_append_right _ (List.mem_append_right _ (List.mem_append_right _ (List.mem_append_right _ (List.mem_append_left _ (List.mem_singleton.2 rfl))))))))
    have A519 := A495.step (nKeep (nKeep (nTurn hat501 (nKeep (nKeep (nKeep same)))))) E504 (sApp (fun _ h => List.mem_append_right _ (List.mem_append_right _ (List.mem_append_left _ (h)))) (in1 (List.mem_append_right _ (List.mem_append_right _ (List.mem_append_right _ (List.mem_append_right _ (List.mem_append_left _ (List.mem_singleton.2 rfl))))))))
    have hM520 : Mok ([l186] ++ ([D185] ++ (ob (.slice a497 ((o3 ++ (lineS (Lib.itoa (((x457.length : Nat) : Int))) x457)).length) cap498) ++ ([b141] ++ ([b130] ++ ([b110] ++ [])))))) w503 := hM496.step E504 (nKeep (nKeep (nTurn (fun b hb => .inr ((fun b hb => (O500.lt b hb).2) b hb)) (nKeep (nKeep (nKeep same))))))
    refine ⟨hS507, ?_⟩
    refine D.done _ (by kernel_rfl) ?_
    show S _ _ _ c58_n44 _ _ _ _
    refine S.reg (ops := o58_n44) (js := [0, 1]) (by kernel_rfl) (by kernel_rfl) ?_
    refine L.runU [0] [1] [(41, .int .i64 (IntKind.i64.wrap (((k : Nat) : Int) + 1)))] (by kernel_rfl) (by kernel_rfl) ?_
    refine X.re64 (G := fun σ => L _ _ _ _ _ _ σ _ _) (d := 41) (((k : Nat) : Int) + 1) (((k + 1 : Nat) : Int)) (by kernel_rfl) (by omega) ?_
    refine L.runU [1] [] [(31, .int .i64 (((k + 1 : Nat) : Int)))] (by kernel_rfl) (by kernel_rfl) ?_
    refine L.done ?_
    show ∃ m', m' < _ ∧ _
    refine ⟨x314.length - (k + 1), ?_, ⟨k + 1, (.pointer (some ⟨b130, 0, none⟩)), a497, cap498, o3 ++ (lineS (Lib.itoa (((x457.length : Nat) : Int))) x457), rfl, (by exact (.inr rfl)), (by omega), (by rw [hho]; exact linesN_snoc hx458), (by simp only [lineS, List.length_append, List.length_cons, List.length_nil]; have := hxs _ (List.mem_of_getElem? hx458); have := itoa_len (m := (x457).length) (by omega); omega), C511, B512, B513, B499, B514, B515, nm516, R517, R518, O500, hM520, hE506, hC509, mm510, (by omega), rfl, _, Holds.eq (l := [(2, sv []), (3, .int .i64 0), (5, .pointer (some ⟨b141, 0, none⟩)), (29, .slice a311 x314.length cap312), (30, .int .i64 (((x314.length : Nat) : Int))), (31, .int .i64 (((k + 1 : Nat) : Int)))]) ⟨by kernel_rfl, by kernel_rfl, by kernel_rfl, by kernel_rfl, by kernel_rfl, by kernel_rfl, trivial⟩⟩⟩
    omega
   ·refine S.exit (id := 2) (by kernel_rfl) ?_
    show (_ ∧ _)
    exact ⟨⟨_, hC450, (nin (O331.apart (List.mem_append_left _ (List.mem_singleton.2 rfl))) (nin (notin1 (by omega)) (nin (notin1 (by omega)) (nin (notin1 (by omega)) (by simp; omega))))), (nin (O331.apart (List.mem_append_right _ (List.mem_append_left _ (List.mem_singleton.2 rfl)))) (nin (notin1 (by omega)) (nin (notin1 (by omega)) (nin (notin1 (by omega)) (by simp; omega)))))⟩, ⟨(p3), a432, cap433, o3, (Nat.le_refl _), hM448, (by omega), (by exact hp3), (by rw [List.length_append, List.length_singleton]; exact textN_snoc hho hx315 (by omega)), (by rw [List.length_append, List.length_singleton]; omega), F438, F439, F440, F441, F442, F443, nm444, F445, O447, hE449, trivial⟩⟩
  ·rintro N525 m524 pre w521 hF ⟨p1, a194, cap195, out, hm526, hb527, hlt528, hp1, hout, hol, F529, F530, F531, F532, F533, F534, nm535, F536, O537, hE538, -⟩ hlt522 DB523
   have hM539 : Mok ([l186] ++ ([D185] ++ (ob (.slice a194 out.length cap195) ++ ([b141] ++ ([b130] ++ ([b110] ++ [])))))) w521 := bnd_mok hb527 hm526
   have hT8 : textN c 8 = out := by rw [hout, hF.1, hlen]
   show S _ _ _ c58_n45 _ _ _ _
   refine S.seq (x := c58_n46) (y := c58_n47) (by kernel_rfl) ?_
   refine S.reg (ops := o58_n46) (js := [0, 1, 2]) (by kernel_rfl) (by kernel_rfl) ?_
   refine L.call (f := 93) (by kernel_rfl : lookAt _ _ _ _ = some ((Op.call { callee := (Callee.value (Operand.func 93)), args := #[(Operand.tmp 4)], argTypes := #[142] }), some 42)) e93 (by kernel_rfl) (bstr_ok ([l186] ++ ([D185] ++ ([b141] ++ ([b130] ++ ([b110] ++ []))))) b130 w.heap.size (p1) a194 cap195 out _ (hM539.sub (sKeep (sKeep (sDrop sSame)))) (List.mem_append_right _ (List.mem_append_right _ (List.mem_append_right _ (List.mem_append_left _ (List.mem_singleton.2 rfl))))) F532 O537 hE538.size (hT8 ▸ textF_ne hr) (by have := hF.1; omega)) ?_
   rintro _ w541 E542 rfl
   have hE544 := hE538.andMem E542 (memOwn O537 (Nat.le_refl _))
   have := E542.size
   have C545 := Kd.step (Kd.array 8 [] (Kd.slice Kd.str) rfl) F529 same E542 (fun _ h => List.mem_append_right _ (List.mem_append_right _ (List.mem_append_left _ (h))))
   have B546 := F530.eff E542 (fun h => absurd (O537.lt _ h).1 (by omega))
   have B547 := F531.eff E542 (O537.apart (List.mem_append_right _ (List.mem_append_right _ (List.mem_append_right _ (List.mem_append_right _ (List.mem_append_left _ (List.mem_singleton.2 rfl)))))))
   have B548 := F532.eff E542 (O537.apart (List.mem_append_right _ (List.mem_append_right _ (List.mem_append_right _ (List.mem_append_left _ (List.mem_singleton.2 rfl))))))
   have B549 := F533.eff E542 (O537.apart (List.mem_append_right _ (List.mem_append_right _ (List.mem_append_left _ (List.mem_singleton.2 rfl)))))
   have B550 := F534.eff E542 (fun h => nm535 (List.mem_append_right _ (List.mem_append_right _ (List.mem_append_left _ (h)))))
   have R551 := F536.step same E542 (fun _ h => List.mem_append_right _ (List.mem_append_right _ (List.mem_append_left _ (h))))
   have DB552 := DB523.eff E542 (O537.apart (List.mem_append_right _ (List.mem_append_left _ (List.mem_singleton.2 rfl))))
   have hM553 := hM539.eff E542
   refine L.runU [1, 2] [] [(2, sv out), (3, .int .i64 0)] (by kernel_rfl) (by kernel_rfl) ?_
   refine L.done ?_
   show S _ _ _ c58_n47 _ _ _ _
   refine S.ret (by kernel_rfl) ?_
   show Leave _ _ _ _ _ _ _ _
   refine Leave.mark (D := D185) (by intro h; cases h) DB552 ?_
   intro w554 E555 hs556
   have hE557 := hE544.and1 E555 (by omega)
   have := E555.size
   have C558 := Kd.step (Kd.array 8 [] (Kd.slice Kd.str) rfl) C545 same E555 (in1 (List.mem_append_right _ (List.mem_append_left _ (List.mem_singleton.2 rfl))))
   have B559 := B546.eff1 E555 (by omega)
   have B560 := B547.eff1 E555 (by omega)
   have B561 := B548.eff1 E555 (by omega)
   have B562 := B549.eff1 E555 (by omega)
   have B563 := B550.eff1 E555 (by omega)
   have R564 := R551.step same E555 (in1 (List.mem_append_right _ (List.mem_append_left _ (List.mem_singleton.2 rfl))))
   have hM565 := hM553.eff E555
   show Leave _ _ _ _ _ _ _ _
   refine Leave.ret2 (x := .tmp 2) (y := .tmp 3) (sv out) (.int .i64 0) (by kernel_rfl) (.ofT (by kernel_rfl)) (.ofT (by kernel_rfl)) ?_
   refine ⟨_, rfl, hE557, ?_⟩
   rw [if_pos hr, textF, hT8]
  ·rintro e w1 h
   exact h.elim
end Go.Proofs.YtjleeadiadpiaaaGreatDoor
