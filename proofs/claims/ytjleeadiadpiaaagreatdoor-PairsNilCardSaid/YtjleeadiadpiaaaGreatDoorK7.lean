/-
  PairsNil answers true for every text: pairs that are not there answer ErrNil, have nothing, and are the same. Conditions: the package's three number tables hold what the program's text lays in them.
-/
import Derived.Test.YtjleeadiadpiaaaGreatDoorK6
set_option linter.unusedVariables false
set_option linter.unusedSimpArgs false
set_option maxRecDepth 100000
namespace Go.Proofs.YtjleeadiadpiaaaGreatDoor
open Go Go.Fx Go.RowKit
abbrev kA : Pg := ⟨[47, 98, 111, 111, 107, 47, 97], [117, 49], annC⟩
abbrev kB : Pg := ⟨[47, 98, 111, 111, 107, 47, 98], [117, 49], annC⟩
def psA : Ps := ⟨[([47, 98, 111, 111, 107, 47, 97], kA)], [([117, 49], [47, 98, 111, 111, 107, 47, 97])], none⟩
theorem ann_right : rightF annC = true := by decide
theorem known1 : addF ps0.l1 ps0.l2 kA = 0 := by decide
theorem known1s : addP ps0 kA = psA := by rw [addP, if_pos known1]; rfl
theorem known2 : addF psA.l1 psA.l2 kB = 300 := by decide
theorem known2s : addP psA kB = psA := by rw [addP, if_neg (by rw [known2]; decide)]
theorem known3 : mget psA.l1 (entryAt psA [117, 49]) = some kA := by decide
theorem known3s : (mget psA.l1 (entryAt psA [117, 49])).isSome = true := by rw [known3]; rfl
theorem known4 : (cardF psA.l1 (entryAt psA [117, 49])).href = [47, 98, 111, 111, 107, 47, 97] := by rw [cardF, known3]
theorem known_all : allF psA.l1 = [kA] := by simp [allF, psA, cardF, mget]
theorem itoa1 : Lib.itoa 1 = [49] := by rw [Lib.itoa, if_neg (by decide)]; exact Lib.decDigits_one (i := 1) (by decide)
theorem itoa3 : Lib.itoa 3 = [51] := by rw [Lib.itoa, if_neg (by decide)]; exact Lib.decDigits_one (i := 3) (by decide)
theorem known_text : textF annC = [102, 117, 108, 108, 32, 49, 10, 51, 32, 65, 110, 110, 10] := by
 have h : textF annC = headS 0 [[65, 110, 110]] ++ (lineN [65, 110, 110] ++ []) ++ [] := rfl
 have h1 : headS 0 [[65, 110, 110]] = lineS [102, 117, 108, 108] (Lib.itoa 1) := rfl
 have h2 : lineN [65, 110, 110] = lineS (Lib.itoa 3) [65, 110, 110] := rfl
 rw [h, h1, h2, itoa1, itoa3]; rfl
theorem known_row : rowP kA = ⟨[112, 47, 98, 111, 111, 107, 47, 97], [117, 49, 10, 102, 117, 108, 108, 32, 49, 10, 51, 32, 65, 110, 110, 10]⟩ := by
 rw [rowP, textS, if_pos ann_right, known_text]; rfl
theorem known_rows : rowsF psA = [rowP kA] := by
 have h : rowsF psA = (allF psA.l1).map rowP := rfl
 rw [h, known_all]; rfl
theorem known5 : (((rowsF psA).length : Nat) : Int) = 1 := by rw [known_rows]; rfl
theorem known6 {x : Pr} (hx : (rowsF psA)[0]? = some x) : x.key = [112, 47, 98, 111, 111, 107, 47, 97] := by rw [known_rows] at hx; cases hx; rw [known_row]
theorem known7 {x : Pr} (hx : (rowsF psA)[0]? = some x) : x.val = [117, 49, 10, 102, 117, 108, 108, 32, 49, 10, 51, 32, 65, 110, 110, 10] := by rw [known_rows] at hx; cases hx; rw [known_row]
noncomputable def c10 : Code := bodyOf Tryz.f10
noncomputable def c10_0 : Code := kid 0 c10
noncomputable def o10_0 : Array Oper := regOps c10_0
noncomputable def c10_1 : Code := kid 1 c10
noncomputable def c10_1_0 : Code := kid 0 c10_1
noncomputable def o10_1_0 : Array Oper := regOps c10_1_0
noncomputable def c10_1_1 : Code := kid 1 c10_1
noncomputable def c10_1_1_0 : Code := kid 0 c10_1_1
noncomputable def o10_1_1_0 : Array Oper := regOps c10_1_1_0
noncomputable def c10_1_1_1 : Code := kid 1 c10_1_1
noncomputable def c10_n7 : Code := kid 0 c10_1_1_1
noncomputable def o10_n7 : Array Oper := regOps c10_n7
noncomputable def c10_n8 : Code := kid 1 c10_1_1_1
noncomputable def c10_n9 : Code := kid 0 c10_n8
noncomputable def o10_n9 : Array Oper := regOps c10_n9
noncomputable def c10_n10 : Code := kid 1 c10_n8
noncomputable def c10_n11 : Code := kid 0 c10_n10
noncomputable def o10_n11 : Array Oper := regOps c10_n11
noncomputable def c10_n12 : Code := kid 1 c10_n10
noncomputable def c10_n13 : Code := kid 0 c10_n12
noncomputable def o10_n13 : Array Oper := regOps c10_n13
noncomputable def c10_n14 : Code := kid 1 c10_n12
set_option maxHeartbeats 400000 in
theorem known_ok  (w : World) (hTab : TabP w) : Calls Tryz.prog 10 #[] w (RetW [] w fun v _ => v = .bool true) := by
 refine calls_of_S (n := 56) (c := c10) Tryz.func10 (by kernel_rfl) (by kernel_rfl) (Nat.le_of_ble_eq_true (by kernel_rfl)) ?_
 have := hTab.lt
 have hE0 : Eff [] w w := Eff.refl _ _
 refine S.seq (x := c10_0) (y := c10_1) (by kernel_rfl) ?_
 refine S.reg (ops := o10_0) (js := [0]) (by kernel_rfl) (by kernel_rfl) ?_
 refine L.runU [0] [] [(0, .bool false)] (by kernel_rfl) (by kernel_rfl) ?_
 refine L.done ?_
 show S _ _ _ c10_1 _ _ _ _
 refine S.seq (x := c10_1_0) (y := c10_1_1) (by kernel_rfl) ?_
 refine S.reg (ops := o10_1_0) (js := [0, 1]) (by kernel_rfl) (by kernel_rfl) ?_
 refine L.call (f := 11) (by kernel_rfl : lookAt _ _ _ _ = some ((Op.call { callee := (Callee.value (Operand.func 11)), args := #[], argTypes := #[] }), some 7)) e11 (by kernel_rfl) (new_ps _) ?_
 rintro _ w106 E107 ⟨pb101, b102, b103, rfl, _, _, _, _, _, _, _, _, _, hall104⟩
 have hE109 := hE0.and0 E107
 have := E107.size
 have nm111 := ninN List.not_mem_nil hTab.lt (nNew (fresh1' (b := pb101) (by omega)) (nNew (fresh1' (b := b102) (by omega)) (nNew (fresh1' (b := b103) (by omega)) same)))
 have B110 := hTab.eff0 E107
 have hM112 : Mok ([pb101] ++ ([b102] ++ ([b103] ++ []))) w106 := (Mok.nil _).step E107 (nNew (flt1 (b := pb101) (by omega)) (nNew (flt1 (b := b102) (by omega)) (nNew (flt1 (b := b103) (by omega)) same)))
 have PS113 := hall104 _ hM112 (List.mem_append_left _ (List.mem_singleton.2 rfl)) (List.mem_append_right _ (List.mem_append_left _ (List.mem_singleton.2 rfl))) (List.mem_append_right _ (List.mem_append_right _ (List.mem_append_left _ (List.mem_singleton.2 rfl))))
 refine L.runU [1] [] [(1, .pointer (some ⟨pb101, 0, none⟩))] (by kernel_rfl) (by kernel_rfl) ?_
 refine L.done ?_
 show S _ _ _ c10_1_1 _ _ _ _
 refine S.seq (x := c10_1_1_0) (y := c10_1_1_1) (by kernel_rfl) ?_
 refine S.reg (ops := o10_1_1_0) (js := [0, 1, 2, 3, 4]) (by kernel_rfl) (by kernel_rfl) ?_
 refine L.runU [0] [1, 2, 3, 4] [(8, .pointer (some ⟨pb101, 0, none⟩))] (by kernel_rfl) (by kernel_rfl) ?_
 refine L.call (f := 29) (by kernel_rfl : lookAt _ _ _ _ = some ((Op.call { callee := (Callee.value (Operand.func 29)), args := #[], argTypes := #[] }), some 9)) e29 (by kernel_rfl) (somebody_ok ([pb101] ++ ([b102] ++ ([b103] ++ []))) _ hM112) ?_
 rintro _ w117 E118 ⟨cs114, rfl, R115⟩
 obtain ⟨v120, v121, v122, v123, v124, v125, v126, v127, rfl, C128⟩ := R115
 have hE129 := hE109.and0 E118
 have := E118.size
 have hM130 := hM112.eff E118
 have B131 := B110.eff0 E118
 have PS132 := PS113.eff0 E118
 refine L.runU [2] [3, 4] [(10, .agg #[sv [47, 98, 111, 111, 107, 47, 97], sv [117, 49], v120, v121, v122, v123, v124, v125, v126, v127])] (by kernel_rfl) (by kernel_rfl) ?_
 refine L.call (f := 27) (by kernel_rfl : lookAt _ _ _ _ = some ((Op.call { callee := (Callee.value (Operand.func 27)), args := #[(Operand.tmp 8), (Operand.tmp 10)], argTypes := #[25, 40] }), some 11)) e27 (by kernel_rfl) (add_ps PS132 (cs := [sv [47, 98, 111, 111, 107, 47, 97], sv [117, 49], v120, v121, v122, v123, v124, v125, v126, v127]) (x := (⟨[47, 98, 111, 111, 107, 47, 97], [117, 49], annC⟩ : Pg)) (⟨[sv [47, 98, 111, 111, 107, 47, 97]], [sv [117, 49], v120, v121, v122, v123, v124, v125, v126, v127], rfl, ⟨rfl, by (simp only [List.length_cons, List.length_nil, List.length_append, List.length_take, List.length_drop, List.length_map, List.length_replicate] <;> omega)⟩, ⟨[sv [117, 49]], [v120, v121, v122, v123, v124, v125, v126, v127], rfl, ⟨rfl, by (simp only [List.length_cons, List.length_nil, List.length_append, List.length_take, List.length_drop, List.length_map, List.length_replicate] <;> omega)⟩, ⟨_, _, _, _, _, _, _, _, rfl, C128⟩⟩⟩)) ?_
 rintro _ w134 E135 ⟨rfl, PS137⟩
 have hE138 := hE129.andMem E135 (memApp (mem1 (by omega)) (memApp (mem1 (by omega)) (mem1 (by omega))))
 have := E135.size
 have hM139 := hM130.eff E135
 have B140 := B131.eff E135 (nin (notin1 (by omega)) (nin (notin1 (by omega)) (notin1 (by omega))))
 have C141 := Kd.step (Kd.array 8 [] (Kd.slice Kd.str) rfl) C128 same E135 (sApp (in1 (List.mem_append_left _ (List.mem_singleton.2 rfl))) (sApp (in1 (List.mem_append_right _ (List.mem_append_left _ (List.mem_singleton.2 rfl)))) (in1 (List.mem_append_right _ (List.mem_append_right _ (List.mem_append_left _ (List.mem_singleton.2 rfl)))))))
 rw [known1s] at PS137
 refine L.runU [4] [] [(2, .int .i64 (addF ps0.l1 ps0.l2 (⟨[47, 98, 111, 111, 107, 47, 97], [117, 49], annC⟩ : Pg)))] (by kernel_rfl) (by kernel_rfl) ?_
 refine L.done ?_
 show S _ _ _ c10_1_1_1 _ _ _ _
 refine S.seq (x := c10_n7) (y := c10_n8) (by kernel_rfl) ?_
 refine S.reg (ops := o10_n7) (js := [0, 1, 2, 3, 4]) (by kernel_rfl) (by kernel_rfl) ?_
 refine L.runU [0] [1, 2, 3, 4] [(12, .pointer (some ⟨pb101, 0, none⟩))] (by kernel_rfl) (by kernel_rfl) ?_
 refine L.call (f := 29) (by kernel_rfl : lookAt _ _ _ _ = some ((Op.call { callee := (Callee.value (Operand.func 29)), args := #[], argTypes := #[] }), some 13)) e29 (by kernel_rfl) (somebody_ok ([pb101] ++ ([b102] ++ ([b103] ++ []))) _ hM139) ?_
 rintro _ w145 E146 ⟨cs142, rfl, R143⟩
 obtain ⟨v148, v149, v150, v151, v152, v153, v154, v155, rfl, C156⟩ := R143
 have hE157 := hE138.and0 E146
 have := E146.size
 have hM158 := hM139.eff E146
 have B159 := B140.eff0 E146
 have C160 := Kd.step (Kd.array 8 [] (Kd.slice Kd.str) rfl) C141 same E146 no0
 have PS161 := PS137.eff0 E146
 refine L.runU [2] [3, 4] [(14, .agg #[sv [47, 98, 111, 111, 107, 47, 98], sv [117, 49], v148, v149, v150, v151, v152, v153, v154, v155])] (by kernel_rfl) (by kernel_rfl) ?_
 refine L.call (f := 27) (by kernel_rfl : lookAt _ _ _ _ = some ((Op.call { callee := (Callee.value (Operand.func 27)), args := #[(Operand.tmp 12), (Operand.tmp 14)], argTypes := #[25, 40] }), some 15)) e27 (by kernel_rfl) (add_ps PS161 (cs := [sv [47, 98, 111, 111, 107, 47, 98], sv [117, 49], v148, v149, v150, v151, v152, v153, v154, v155]) (x := (⟨[47, 98, 111, 111, 107, 47, 98], [117, 49], annC⟩ : Pg)) (⟨[sv [47, 98, 111, 111, 107, 47, 98]], [sv [117, 49], v148, v149, v150, v151, v152, v153, v154, v155], rfl, ⟨rfl, by (simp only [List.length_cons, List.length_nil, List.length_append, List.length_take, List.length_drop, List.length_map, List.length_replicate] <;> omega)⟩, ⟨[sv [117, 49]], [v148, v149, v150, v151, v152, v153, v154, v155], rfl, ⟨rfl, by (simp only [List.length_cons, List.length_nil, List.length_append, List.length_take, List.length_drop, List.length_map, List.length_replicate] <;> omega)⟩, ⟨_, _, _, _, _, _, _, _, rfl, C156⟩⟩⟩)) ?_
 rintro _ w163 E164 ⟨rfl, PS166⟩
 have hE167 := hE157.andMem E164 (memApp (mem1 (by omega)) (memApp (mem1 (by omega)) (mem1 (by omega))))
 have := E164.size
 have hM168 := hM158.eff E164
 have B169 := B159.eff E164 (nin (notin1 (by omega)) (nin (notin1 (by omega)) (notin1 (by omega))))
 have C170 := Kd.step (Kd.array 8 [] (Kd.slice Kd.str) rfl) C160 same E164 (sApp (in1 (List.mem_append_left _ (List.mem_singleton.2 rfl))) (sApp (in1 (List.mem_append_right _ (List.mem_append_left _ (List.mem_singleton.2 rfl)))) (in1 (List.mem_append_right _ (List.mem_append_right _ (List.mem_append_left _ (List.mem_singleton.2 rfl)))))))
 have C171 := Kd.step (Kd.array 8 [] (Kd.slice Kd.str) rfl) C156 same E164 (sApp (in1 (List.mem_append_left _ (List.mem_singleton.2 rfl))) (sApp (in1 (List.mem_append_right _ (List.mem_append_left _ (List.mem_singleton.2 rfl)))) (in1 (List.mem_append_right _ (List.mem_append_right _ (List.mem_append_left _ (List.mem_singleton.2 rfl)))))))
 rw [known2s] at PS166
 refine L.runU [4] [] [(3, .int .i64 (addF psA.l1 psA.l2 (⟨[47, 98, 111, 111, 107, 47, 98], [117, 49], annC⟩ : Pg)))] (by kernel_rfl) (by kernel_rfl) ?_
 refine L.done ?_
 show S _ _ _ c10_n8 _ _ _ _
 refine S.seq (x := c10_n9) (y := c10_n10) (by kernel_rfl) ?_
 refine S.reg (ops := o10_n9) (js := [0, 1, 2, 3, 4, 5, 6, 7]) (by kernel_rfl) (by kernel_rfl) ?_
 refine L.runU [0] [1, 2, 3, 4, 5, 6, 7] [(17, .pointer (some ⟨pb101, 0, none⟩))] (by kernel_rfl) (by kernel_rfl) ?_
 refine L.call (f := 15) (by kernel_rfl : lookAt _ _ _ _ = some ((Op.call { callee := (Callee.value (Operand.func 15)), args := #[(Operand.tmp 17), (Operand.const (Value.string { data := #[117, 49] }))], argTypes := #[25, 9] }), some 18)) e15 (by kernel_rfl) (entry_ps PS166 [117, 49]) ?_
 rintro _ w175 E176 ⟨cs172, rfl, R173⟩
 obtain ⟨_, _, rfl, ⟨rfl, hl178⟩, ⟨_, _, rfl, ⟨rfl, hl179⟩, ⟨v180, v181, v182, v183, v184, v185, v186, v187, rfl, C188⟩⟩⟩ := R173
 have hE189 := hE167.and0 E176
 have := E176.size
 have hM190 := hM168.eff E176
 have B191 := B169.eff0 E176
 have C192 := Kd.step (Kd.array 8 [] (Kd.slice Kd.str) rfl) C170 same E176 no0
 have C193 := Kd.step (Kd.array 8 [] (Kd.slice Kd.str) rfl) C171 same E176 no0
 have PS194 := PS166.eff0 E176
 refine L.runU [2, 3, 4] [5, 6, 7] [(16, .tuple #[.agg #[sv (((cardF psA.l1 (entryAt psA [117, 49]))).href), sv (((cardF psA.l1 (entryAt psA [117, 49]))).uuid), v180, v181, v182, v183, v184, v185, v186, v187], .bool ((mget psA.l1 (entryAt psA [117, 49])).isSome)]), (19, .agg #[sv (((cardF psA.l1 (entryAt psA [117, 49]))).href), sv (((cardF psA.l1 (entryAt psA [117, 49]))).uuid), v180, v181, v182, v183, v184, v185, v186, v187]), (20, .bool ((mget psA.l1 (entryAt psA [117, 49])).isSome))] (by kernel_rfl) (by kernel_rfl) ?_
 refine L.alloc [sv [], sv [], .slice none 0 0, .slice none 0 0, .slice none 0 0, .slice none 0 0, .slice none 0 0, .slice none 0 0, .slice none 0 0, .slice none 0 0] (by kernel_rfl : lookAt _ _ _ _ = some ((Op.alloc 40), some 4)) (by kernel_rfl) ?_
 intro b195 w196 hs197 hz198 E199 B200
 have hE201 := hE189.and0 E199
 have := E199.size
 have hM202 : Mok ([b195] ++ ([pb101] ++ ([b102] ++ ([b103] ++ [])))) w196 := hM190.step E199 (nNew (flt1 (b := b195) (by omega)) (nKeep (nKeep (nKeep same))))
 have nm204 := ninN nm111 B191.lt (nNew (fresh1 hs197) (nKeep (nKeep (nKeep same))))
 have B203 := B191.eff0 E199
 have C205 := Kd.step (Kd.array 8 [] (Kd.slice Kd.str) rfl) C192 (nNew (fresh1 hs197) (nKeep (nKeep (nKeep same)))) E199 no0
 have C206 := Kd.step (Kd.array 8 [] (Kd.slice Kd.str) rfl) C193 (nNew (fresh1 hs197) (nKeep (nKeep (nKeep same)))) E199 no0
 have PS207 := PS194.step hM202 (nNew (fresh1 hs197) (nKeep (nKeep (nKeep same)))) (List.mem_append_right _ (List.mem_append_left _ (List.mem_singleton.2 rfl))) (List.mem_append_right _ (List.mem_append_right _ (List.mem_append_left _ (List.mem_singleton.2 rfl)))) (List.mem_append_right _ (List.mem_append_right _ (List.mem_append_right _ (List.mem_append_left _ (List.mem_singleton.2 rfl))))) E199 (by simp) (by simp) (by simp) no0
 have C208 := Kd.step (Kd.array 8 [] (Kd.slice Kd.str) rfl) C188 (nNew (fresh1 hs197) (nKeep (nKeep (nKeep same)))) E199 no0
 refine L.store 0 [sv (((cardF psA.l1 (entryAt psA [117, 49]))).href), sv (((cardF psA.l1 (entryAt psA [117, 49]))).uuid), v180, v181, v182, v183, v184, v185, v186, v187] [sv (((cardF psA.l1 (entryAt psA [117, 49]))).href), sv (((cardF psA.l1 (entryAt psA [117, 49]))).uuid), v180, v181, v182, v183, v184, v185, v186, v187] (by kernel_rfl : lookAt _ _ _ _ = some ((Op.store 40 (Operand.tmp 4) (Operand.tmp 19)), none)) (by kernel_rfl) B200 (by kernel_rfl) (by kernel_rfl) (by kernel_rfl) (ones_app (a := [sv (((cardF psA.l1 (entryAt psA [117, 49]))).href), sv (((cardF psA.l1 (entryAt psA [117, 49]))).uuid)]) (b := [v180, v181, v182, v183, v184, v185, v186, v187]) (one_of_all (by kernel_rfl)) (Kd.one (Kd.array 8 [] (Kd.slice Kd.str) rfl) C208)) (by kernel_rfl) ?_
 intro w209 E210 hz211 B212
 have hE213 := hE201.and1 E210 (by omega)
 have := E210.size
 have hM214 := hM202.eff E210
 have B215 := B203.eff1 E210 (by omega)
 have C216 := Kd.step (Kd.array 8 [] (Kd.slice Kd.str) rfl) C205 same E210 (in1 (List.mem_append_left _ (List.mem_singleton.2 rfl)))
 have C217 := Kd.step (Kd.array 8 [] (Kd.slice Kd.str) rfl) C206 same E210 (in1 (List.mem_append_left _ (List.mem_singleton.2 rfl)))
 have PS218 := PS207.step hM214 same (List.mem_append_right _ (List.mem_append_left _ (List.mem_singleton.2 rfl))) (List.mem_append_right _ (List.mem_append_right _ (List.mem_append_left _ (List.mem_singleton.2 rfl)))) (List.mem_append_right _ (List.mem_append_right _ (List.mem_append_right _ (List.mem_append_left _ (List.mem_singleton.2 rfl))))) E210 (notin1 (by omega)) (notin1 (by omega)) (notin1 (by omega)) (in1 (List.mem_append_left _ (List.mem_singleton.2 rfl)))
 have C219 := Kd.step (Kd.array 8 [] (Kd.slice Kd.str) rfl) C208 same E210 (in1 (List.mem_append_left _ (List.mem_singleton.2 rfl)))
 refine L.runU [7] [] [(5, .bool ((mget psA.l1 (entryAt psA [117, 49])).isSome))] (by kernel_rfl) (by kernel_rfl) ?_
 refine L.done ?_
 show S _ _ _ c10_n10 _ _ _ _
 refine S.seq (x := c10_n11) (y := c10_n12) (by kernel_rfl) ?_
 refine S.reg (ops := o10_n11) (js := [0, 1, 2]) (by kernel_rfl) (by kernel_rfl) ?_
 refine L.runU [0] [1, 2] [(21, .pointer (some ⟨pb101, 0, none⟩))] (by kernel_rfl) (by kernel_rfl) ?_
 refine L.call (f := 31) (by kernel_rfl : lookAt _ _ _ _ = some ((Op.call { callee := (Callee.value (Operand.func 31)), args := #[(Operand.tmp 21)], argTypes := #[25] }), some 22)) e31 (by kernel_rfl) (rows_ps PS218 B215 nm204) ?_
 rintro _ w224 E225 ⟨a220, cap221, rfl, R222⟩
 have hE227 := hE213.and0 E225
 have := E225.size
 have hM228 := hM214.eff E225
 have B229 := B215.eff0 E225
 have C230 := Kd.step (Kd.array 8 [] (Kd.slice Kd.str) rfl) C216 same E225 no0
 have C231 := Kd.step (Kd.array 8 [] (Kd.slice Kd.str) rfl) C217 same E225 no0
 have PS232 := PS218.eff0 E225
 have C233 := Kd.step (Kd.array 8 [] (Kd.slice Kd.str) rfl) C219 same E225 no0
 have B234 := B212.eff0 E225
 refine L.runU [2] [] [(6, .slice a220 ((rowsF psA).length) cap221)] (by kernel_rfl) (by kernel_rfl) ?_
 refine L.done ?_
 show S _ _ _ c10_n12 _ _ _ _
 refine S.seq (x := c10_n13) (y := c10_n14) (by kernel_rfl) ?_
 refine S.reg (ops := o10_n13) (js := [0, 1, 2, 3, 4, 5, 6, 7, 8, 9, 10, 11, 12, 13, 14, 15, 16, 17, 18, 19, 20, 21, 22, 23, 24, 25, 26, 27, 28, 29, 30, 31, 32, 33]) (by kernel_rfl) (by kernel_rfl) ?_
 refine L.runU [0, 1, 2] [3, 4, 5, 6, 7, 8, 9, 10, 11, 12, 13, 14, 15, 16, 17, 18, 19, 20, 21, 22, 23, 24, 25, 26, 27, 28, 29, 30, 31, 32, 33] [(23, .int .i64 (addF ps0.l1 ps0.l2 (⟨[47, 98, 111, 111, 107, 47, 97], [117, 49], annC⟩ : Pg))), (24, .bool (decide (addF ps0.l1 ps0.l2 (⟨[47, 98, 111, 111, 107, 47, 97], [117, 49], annC⟩ : Pg) = 0))), (25, .bool (decide (addF ps0.l1 ps0.l2 (⟨[47, 98, 111, 111, 107, 47, 97], [117, 49], annC⟩ : Pg) = 0)))] (by kernel_rfl) (by kernel_rfl) ?_
 refine X.splitP (G := fun σ => L _ _ _ _ _ _ σ _ _) (addF ps0.l1 ps0.l2 (⟨[47, 98, 111, 111, 107, 47, 97], [117, 49], annC⟩ : Pg) = 0) 25 (by kernel_rfl) (fun h235 => ?_) (fun h235 => ?_)
 ·refine L.runU [3, 4, 5, 6] [7, 8, 9, 10, 11, 12, 13, 14, 15, 16, 17, 18, 19, 20, 21, 22, 23, 24, 25, 26, 27, 28, 29, 30, 31, 32, 33] [(26, .int .i64 (addF psA.l1 psA.l2 (⟨[47, 98, 111, 111, 107, 47, 98], [117, 49], annC⟩ : Pg))), (27, .bool (decide (addF psA.l1 psA.l2 (⟨[47, 98, 111, 111, 107, 47, 98], [117, 49], annC⟩ : Pg) = 300))), (28, .bool (decide (addF psA.l1 psA.l2 (⟨[47, 98, 111, 111, 107, 47, 98], [117, 49], annC⟩ : Pg) = 300))), (29, .bool (decide (addF psA.l1 psA.l2 (⟨[47, 98, 111, 111, 107, 47, 98], [117, 49], annC⟩ : Pg) = 300)))] (by kernel_rfl) (by kernel_rfl) ?_
  refine X.splitP (G := fun σ => L _ _ _ _ _ _ σ _ _) (addF psA.l1 psA.l2 (⟨[47, 98, 111, 111, 107, 47, 98], [117, 49], annC⟩ : Pg) = 300) 29 (by kernel_rfl) (fun h236 => ?_) (fun h236 => ?_)
  ·refine L.runU [7, 8, 9] [10, 11, 12, 13, 14, 15, 16, 17, 18, 19, 20, 21, 22, 23, 24, 25, 26, 27, 28, 29, 30, 31, 32, 33] [(30, .bool ((mget psA.l1 (entryAt psA [117, 49])).isSome)), (31, .bool ((mget psA.l1 (entryAt psA [117, 49])).isSome)), (32, .bool ((mget psA.l1 (entryAt psA [117, 49])).isSome))] (by kernel_rfl) (by kernel_rfl) ?_
   refine X.splitB (G := fun σ => L _ _ _ _ _ _ σ _ _) ((mget psA.l1 (entryAt psA [117, 49])).isSome) 32 (by kernel_rfl) (fun h237 => ?_) (fun h237 => ?_)
   ·refine L.runU [10] [11, 12, 13, 14, 15, 16, 17, 18, 19, 20, 21, 22, 23, 24, 25, 26, 27, 28, 29, 30, 31, 32, 33] [(33, .pointer (some ⟨b195, 0, none⟩))] (by kernel_rfl) (by kernel_rfl) ?_
    refine L.val (sv (((cardF psA.l1 (entryAt psA [117, 49]))).href)) (by kernel_rfl : lookAt _ _ _ _ = some ((Op.load 9 (Operand.tmp 33)), some 34)) (by intro c e; cases e) (rx_load 0 (sv (((cardF psA.l1 (entryAt psA [117, 49]))).href)) (B234.cells) (by kernel_rfl) (by kernel_rfl)) ?_
    refine L.val (.bool (decide (((cardF psA.l1 (entryAt psA [117, 49]))).href = [47, 98, 111, 111, 107, 47, 97]))) (by kernel_rfl : lookAt _ _ _ _ = some ((Op.binOp BinOp.eql 9 (Operand.tmp 34) (Operand.const (Value.string { data := #[47, 98, 111, 111, 107, 47, 97] })) 9), some 35)) (by intro c e; cases e) (rx_strEql (((cardF psA.l1 (entryAt psA [117, 49]))).href) [47, 98, 111, 111, 107, 47, 97] (by kernel_rfl) (by kernel_rfl)) ?_
    refine L.runU [13, 14] [15, 16, 17, 18, 19, 20, 21, 22, 23, 24, 25, 26, 27, 28, 29, 30, 31, 32, 33] [(36, .bool (decide (((cardF psA.l1 (entryAt psA [117, 49]))).href = [47, 98, 111, 111, 107, 47, 97]))), (37, .bool (decide (((cardF psA.l1 (entryAt psA [117, 49]))).href = [47, 98, 111, 111, 107, 47, 97])))] (by kernel_rfl) (by kernel_rfl) ?_
    refine X.splitP (G := fun σ => L _ _ _ _ _ _ σ _ _) (((cardF psA.l1 (entryAt psA [117, 49]))).href = [47, 98, 111, 111, 107, 47, 97]) 37 (by kernel_rfl) (fun h238 => ?_) (fun h238 => ?_)
    ·refine L.runU [15, 16, 17, 18, 19] [20, 21, 22, 23, 24, 25, 26, 27, 28, 29, 30, 31, 32, 33] [(38, .slice a220 ((rowsF psA).length) cap221), (39, .int .i64 ((((rowsF psA).length : Nat) : Int))), (40, .bool (decide ((((rowsF psA).length : Nat) : Int) = 1))), (41, .bool (decide ((((rowsF psA).length : Nat) : Int) = 1))), (42, .bool (decide ((((rowsF psA).length : Nat) : Int) = 1)))] (by kernel_rfl) (by kernel_rfl) ?_
     refine X.splitP (G := fun σ => L _ _ _ _ _ _ σ _ _) ((((rowsF psA).length : Nat) : Int) = 1) 42 (by kernel_rfl) (fun h239 => ?_) (fun h239 => ?_)
     ·refine L.runU [20] [21, 22, 23, 24, 25, 26, 27, 28, 29, 30, 31, 32, 33] [(43, .slice a220 ((rowsF psA).length) cap221)] (by kernel_rfl) (by kernel_rfl) ?_
      obtain ⟨x243, hx244⟩ : ∃ x, (rowsF psA)[0]? = some x := ⟨_, List.getElem?_eq_getElem (by omega)⟩
      obtain ⟨p240, _, hp241, A242, ⟨_, _, rfl, ⟨rfl, hl245⟩, ⟨rfl, hl246⟩⟩⟩ := R222.open_ hx244
      refine L.val (.pointer (some (p240.add (0 * 2)))) (by kernel_rfl : lookAt _ _ _ _ = some ((Op.indexAddr 72 (Operand.tmp 43) (Operand.const (Value.int IntKind.i64 0))), some 44)) (by intro c e; cases e) (rx_indexAddr (e := 77) (sz := 2) (a := a220) (p := p240) (len := (rowsF psA).length) (cap := cap221) (kk := .i64) (i := 0) 0 (0 * 2) (by kernel_rfl) hp241 (by kernel_rfl) (by kernel_rfl) (by kernel_rfl) (by omega) (by omega) (by omega)) ?_
      refine L.runU [22] [23, 24, 25, 26, 27, 28, 29, 30, 31, 32, 33] [(45, .pointer (some (p240.add (0 * 2))))] (by kernel_rfl) (by kernel_rfl) ?_
      refine L.val (sv x243.key) (by kernel_rfl : lookAt _ _ _ _ = some ((Op.load 9 (Operand.tmp 45)), some 46)) (by intro c e; cases e) (rx_load 0 (sv x243.key) (A242.1) (by kernel_rfl) (by kernel_rfl)) ?_
      refine L.val (.bool (decide (x243.key = [112, 47, 98, 111, 111, 107, 47, 97]))) (by kernel_rfl : lookAt _ _ _ _ = some ((Op.binOp BinOp.eql 9 (Operand.tmp 46) (Operand.const (Value.string { data := #[112, 47, 98, 111, 111, 107, 47, 97] })) 9), some 47)) (by intro c e; cases e) (rx_strEql x243.key [112, 47, 98, 111, 111, 107, 47, 97] (by kernel_rfl) (by kernel_rfl)) ?_
      refine L.runU [25, 26] [27, 28, 29, 30, 31, 32, 33] [(48, .bool (decide (x243.key = [112, 47, 98, 111, 111, 107, 47, 97]))), (49, .bool (decide (x243.key = [112, 47, 98, 111, 111, 107, 47, 97])))] (by kernel_rfl) (by kernel_rfl) ?_
      refine X.splitP (G := fun σ => L _ _ _ _ _ _ σ _ _) (x243.key = [112, 47, 98, 111, 111, 107, 47, 97]) 49 (by kernel_rfl) (fun h247 => ?_) (fun h247 => ?_)
      ·refine L.runU [27] [28, 29, 30, 31, 32, 33] [(50, .slice a220 ((rowsF psA).length) cap221)] (by kernel_rfl) (by kernel_rfl) ?_
       obtain ⟨p248, _, hp249, A250, ⟨_, _, rfl, ⟨rfl, hl251⟩, ⟨rfl, hl252⟩⟩⟩ := R222.open_ hx244
       refine L.val (.pointer (some (p248.add (0 * 2)))) (by kernel_rfl : lookAt _ _ _ _ = some ((Op.indexAddr 72 (Operand.tmp 50) (Operand.const (Value.int IntKind.i64 0))), some 51)) (by intro c e; cases e) (rx_indexAddr (e := 77) (sz := 2) (a := a220) (p := p248) (len := (rowsF psA).length) (cap := cap221) (kk := .i64) (i := 0) 0 (0 * 2) (by kernel_rfl) hp249 (by kernel_rfl) (by kernel_rfl) (by kernel_rfl) (by omega) (by omega) (by omega)) ?_
       refine L.runU [29] [30, 31, 32, 33] [(52, .pointer (some ((p248.add (0 * 2)).add 1)))] (by kernel_rfl) (by kernel_rfl) ?_
       refine L.val (sv x243.val) (by kernel_rfl : lookAt _ _ _ _ = some ((Op.load 9 (Operand.tmp 52)), some 53)) (by intro c e; cases e) (rx_load 1 (sv x243.val) (A250.1) (by kernel_rfl) (by kernel_rfl)) ?_
       refine L.val (.bool (decide (x243.val = [117, 49, 10, 102, 117, 108, 108, 32, 49, 10, 51, 32, 65, 110, 110, 10]))) (by kernel_rfl : lookAt _ _ _ _ = some ((Op.binOp BinOp.eql 9 (Operand.tmp 53) (Operand.const (Value.string { data := #[117, 49, 10, 102, 117, 108, 108, 32, 49, 10, 51, 32, 65, 110, 110, 10] })) 9), some 54)) (by intro c e; cases e) (rx_strEql x243.val [117, 49, 10, 102, 117, 108, 108, 32, 49, 10, 51, 32, 65, 110, 110, 10] (by kernel_rfl) (by kernel_rfl)) ?_
       refine L.runU [32, 33] [] [(55, .bool (decide (x243.val = [117, 49, 10, 102, 117, 108, 108, 32, 49, 10, 51, 32, 65, 110, 110, 10]))), (0, .bool (decide (x243.val = [117, 49, 10, 102, 117, 108, 108, 32, 49, 10, 51, 32, 65, 110, 110, 10])))] (by kernel_rfl) (by kernel_rfl) ?_
       refine L.done ?_
       show S _ _ _ c10_n14 _ _ _ _
       refine S.ret (by kernel_rfl) ?_
       show Leave _ _ _ _ _ _ _ _
       refine Leave.ret1 (x := .tmp 0) (.bool (decide (x243.val = [117, 49, 10, 102, 117, 108, 108, 32, 49, 10, 51, 32, 65, 110, 110, 10]))) (by kernel_rfl) (.ofT (by kernel_rfl)) ?_
       refine ⟨_, rfl, hE227, ?_⟩
       rw [decide_eq_true (known7 hx244)]
      ·refine L.runU [27, 28, 29, 30, 31, 32, 33] [] [(50, undef), (51, undef), (52, undef), (53, undef), (54, undef), (55, .bool false), (0, .bool false)] (by kernel_rfl) (by kernel_rfl) ?_
       refine L.done ?_
       show S _ _ _ c10_n14 _ _ _ _
       refine S.ret (by kernel_rfl) ?_
       show Leave _ _ _ _ _ _ _ _
       refine Leave.ret1 (x := .tmp 0) (.bool false) (by kernel_rfl) (.ofT (by kernel_rfl)) ?_
       refine ⟨_, rfl, hE227, ?_⟩
       exfalso
       first | exact absurd known1 (by assumption) | exact absurd known2 (by assumption) | exact Bool.noConfusion (known3s.symm.trans (by assumption)) | exact absurd known4 (by assumption) | exact absurd known5 (by assumption) | exact absurd (known6 hx244) (by assumption)
     ·refine L.runU [20, 21, 22, 23, 24, 25, 26, 27, 28, 29, 30, 31, 32, 33] [] [(43, undef), (44, undef), (45, undef), (46, undef), (47, undef), (48, .bool false), (49, .bool false), (50, undef), (51, undef), (52, undef), (53, undef), (54, undef), (55, .bool false), (0, .bool false)] (by kernel_rfl) (by kernel_rfl) ?_
      refine L.done ?_
      show S _ _ _ c10_n14 _ _ _ _
      refine S.ret (by kernel_rfl) ?_
      show Leave _ _ _ _ _ _ _ _
      refine Leave.ret1 (x := .tmp 0) (.bool false) (by kernel_rfl) (.ofT (by kernel_rfl)) ?_
      refine ⟨_, rfl, hE227, ?_⟩
      exfalso
      first | exact absurd known1 (by assumption) | exact absurd known2 (by assumption) | exact Bool.noConfusion (known3s.symm.trans (by assumption)) | exact absurd known4 (by assumption) | exact absurd known5 (by assumption) | exact absurd (known6 hx) (by assumption)
    ·refine L.runU [15, 16, 17, 18, 19, 20, 21, 22, 23, 24, 25, 26, 27, 28, 29, 30, 31, 32, 33] [] [(38, undef), (39, undef), (40, undef), (41, .bool false), (42, .bool false), (43, undef), (44, undef), (45, undef), (46, undef), (47, undef), (48, .bool false), (49, .bool false), (50, undef), (51, undef), (52, undef), (53, undef), (54, undef), (55, .bool false), (0, .bool false)] (by kernel_rfl) (by kernel_rfl) ?_
     refine L.done ?_
     show S _ _ _ c10_n14 _ _ _ _
     refine S.ret (by kernel_rfl) ?_
     show Leave _ _ _ _ _ _ _ _
     refine Leave.ret1 (x := .tmp 0) (.bool false) (by kernel_rfl) (.ofT (by kernel_rfl)) ?_
     refine ⟨_, rfl, hE227, ?_⟩
     exfalso
     first | exact absurd known1 (by assumption) | exact absurd known2 (by assumption) | exact Bool.noConfusion (known3s.symm.trans (by assumption)) | exact absurd known4 (by assumption) | exact absurd known5 (by assumption) | exact absurd (known6 hx) (by assumption)
   ·refine L.runU [10, 11, 12, 13, 14, 15, 16, 17, 18, 19, 20, 21, 22, 23, 24, 25, 26, 27, 28, 29, 30, 31, 32, 33] [] [(33, undef), (34, undef), (35, undef), (36, .bool false), (37, .bool false), (38, undef), (39, undef), (40, undef), (41, .bool false), (42, .bool false), (43, undef), (44, undef), (45, undef), (46, undef), (47, undef), (48, .bool false), (49, .bool false), (50, undef), (51, undef), (52, undef), (53, undef), (54, undef), (55, .bool false), (0, .bool false)] (by kernel_rfl) (by kernel_rfl) ?_
    refine L.done ?_
    show S _ _ _ c10_n14 _ _ _ _
    refine S.ret (by kernel_rfl) ?_
    show Leave _ _ _ _ _ _ _ _
    refine Leave.ret1 (x := .tmp 0) (.bool false) (by kernel_rfl) (.ofT (by kernel_rfl)) ?_
    refine ⟨_, rfl, hE227, ?_⟩
    exfalso
    first | exact absurd known1 (by assumption) | exact absurd known2 (by assumption) | exact Bool.noConfusion (known3s.symm.trans (by assumption)) | exact absurd known4 (by assumption) | exact absurd known5 (by assumption) | exact absurd (known6 hx) (by assumption)
  ·refine L.runU [7, 8, 9, 10, 11, 12, 13, 14, 15, 16, 17, 18, 19, 20, 21, 22, 23, 24, 25, 26, 27, 28, 29, 30, 31, 32, 33] [] [(30, undef), (31, .bool false), (32, .bool false), (33, undef), (34, undef), (35, undef), (36, .bool false), (37, .bool false), (38, undef), (39, undef), (40, undef), (41, .bool false), (42, .bool false), (43, undef), (44, undef), (45, undef), (46, undef), (47, undef), (48, .bool false), (49, .bool false), (50, undef), (51, undef), (52, undef), (53, undef), (54, undef), (55, .bool false), (0, .bool false)] (by kernel_rfl) (by kernel_rfl) ?_
   refine L.done ?_
   show S _ _ _ c10_n14 _ _ _ _
   refine S.ret (by kernel_rfl) ?_
   show Leave _ _ _ _ _ _ _ _
   refine Leave.ret1 (x := .tmp 0) (.bool false) (by kernel_rfl) (.ofT (by kernel_rfl)) ?_
   refine ⟨_, rfl, hE227, ?_⟩
   exfalso
   first | exact absurd known1 (by assumption) | exact absurd known2 (by assumption) | exact Bool.noConfusion (known3s.symm.trans (by assumption)) | exact absurd known4 (by assumption) | exact absurd known5 (by assumption) | exact absurd (known6 hx) (by assumption)
 ·refine L.runU [3, 4, 5, 6, 7, 8, 9, 10, 11, 12, 13, 14, 15, 16, 17, 18, 19, 20, 21, 22, 23, 24, 25, 26, 27, 28, 29, 30, 31, 32, 33] [] [(26, undef), (27, undef), (28, .bool false), (29, .bool false), (30, undef), (31, .bool false), (32, .bool false), (33, undef), (34, undef), (35, undef), (36, .bool false), (37, .bool false), (38, undef), (39, undef), (40, undef), (41, .bool false), (42, .bool false), (43, undef), (44, undef), (45, undef), (46, undef), (47, undef), (48, .bool false), (49, .bool false), (50, undef), (51, undef), (52, undef), (53, undef), (54, undef), (55, .bool false), (0, .bool false)] (by kernel_rfl) (by kernel_rfl) ?_
  refine L.done ?_
  show S _ _ _ c10_n14 _ _ _ _
  refine S.ret (by kernel_rfl) ?_
  show Leave _ _ _ _ _ _ _ _
  refine Leave.ret1 (x := .tmp 0) (.bool false) (by kernel_rfl) (.ofT (by kernel_rfl)) ?_
  refine ⟨_, rfl, hE227, ?_⟩
  exfalso
  first | exact absurd known1 (by assumption) | exact absurd known2 (by assumption) | exact Bool.noConfusion (known3s.symm.trans (by assumption)) | exact absurd known4 (by assumption) | exact absurd known5 (by assumption) | exact absurd (known6 hx) (by assumption)
end Go.Proofs.YtjleeadiadpiaaaGreatDoor
namespace Go.Proofs.YtjleeadiadpiaaaGreatDoor
open Go Go.Fx Go.RowKit
noncomputable def c5 : Code := bodyOf Tryz.f5
noncomputable def c5_0 : Code := kid 0 c5
noncomputable def o5_0 : Array Oper := regOps c5_0
noncomputable def c5_1 : Code := kid 1 c5
noncomputable def c5_1_0 : Code := kid 0 c5_1
noncomputable def c5_1_0_0 : Code := kid 0 c5_1_0
noncomputable def o5_1_0_0 : Array Oper := regOps c5_1_0_0
noncomputable def c5_1_0_1 : Code := kid 1 c5_1_0
noncomputable def c5_n6 : Code := kid 0 c5_1_0_1
noncomputable def c5_n7 : Code := kid 0 c5_n6
noncomputable def o5_n7 : Array Oper := regOps c5_n7
noncomputable def c5_n8 : Code := kid 1 c5_n6
noncomputable def c5_n9 : Code := kid 1 c5_1_0_1
noncomputable def c5_1_1 : Code := kid 1 c5_1
noncomputable def c5_1_1_0 : Code := kid 0 c5_1_1
noncomputable def o5_1_1_0 : Array Oper := regOps c5_1_1_0
noncomputable def c5_1_1_1 : Code := kid 1 c5_1_1
noncomputable def c5_n13 : Code := kid 0 c5_1_1_1
noncomputable def o5_n13 : Array Oper := regOps c5_n13
noncomputable def c5_n14 : Code := kid 1 c5_1_1_1
noncomputable def c5_n15 : Code := kid 0 c5_n14
noncomputable def o5_n15 : Array Oper := regOps c5_n15
noncomputable def c5_n16 : Code := kid 1 c5_n14
noncomputable def c5_n17 : Code := kid 0 c5_n16
noncomputable def o5_n17 : Array Oper := regOps c5_n17
noncomputable def c5_n18 : Code := kid 1 c5_n16
noncomputable def c5_n19 : Code := kid 0 c5_n18
noncomputable def o5_n19 : Array Oper := regOps c5_n19
noncomputable def c5_n20 : Code := kid 1 c5_n18
noncomputable def c5_n21 : Code := kid 0 c5_n20
noncomputable def o5_n21 : Array Oper := regOps c5_n21
noncomputable def c5_n22 : Code := kid 1 c5_n20
noncomputable def c5_n23 : Code := kid 0 c5_n22
noncomputable def c5_n24 : Code := kid 0 c5_n23
noncomputable def o5_n24 : Array Oper := regOps c5_n24
noncomputable def c5_n25 : Code := kid 1 c5_n23
noncomputable def c5_n26 : Code := kid 0 c5_n25
noncomputable def c5_n29 : Code := kid 1 c5_n25
noncomputable def c5_n30 : Code := kid 1 c5_n22
noncomputable def c5_n31 : Code := kid 0 c5_n30
noncomputable def c5_n32 : Code := kid 0 c5_n31
noncomputable def o5_n32 : Array Oper := regOps c5_n32
noncomputable def c5_n33 : Code := kid 1 c5_n31
noncomputable def c5_n34 : Code := kid 0 c5_n33
noncomputable def c5_n35 : Code := kid 0 c5_n34
noncomputable def c5_n36 : Code := kid 1 c5_n34
noncomputable def c5_n40 : Code := kid 1 c5_n30
noncomputable def c5_n41 : Code := kid 0 c5_n40
noncomputable def o5_n41 : Array Oper := regOps c5_n41
noncomputable def c5_n42 : Code := kid 1 c5_n40
set_option maxHeartbeats 400000 in
theorem nil_ok (q : Str) (w : World) (hq : q.length < 4611686018427387904) (hTab : TabP w) : Calls Tryz.prog 5 #[sv q] w (RetW [] w fun v _ => v = .bool true) := by
 refine calls_of_S (n := 113) (c := c5) Tryz.func5 (by kernel_rfl) (by kernel_rfl) (Nat.le_of_ble_eq_true (by kernel_rfl)) ?_
 have := hTab.lt
 have hE0 : Eff [] w w := Eff.refl _ _
 refine S.seq (x := c5_0) (y := c5_1) (by kernel_rfl) ?_
 refine S.reg (ops := o5_0) (js := [0]) (by kernel_rfl) (by kernel_rfl) ?_
 refine L.alloc [.bool false] (by kernel_rfl : lookAt _ _ _ _ = some ((Op.alloc 4), some 2)) (by kernel_rfl) ?_
 intro b101 w102 hs103 hz104 E105 B106
 have hE107 := hE0.and0 E105
 have := E105.size
 have nm109 := ninN List.not_mem_nil hTab.lt (nNew (fresh1 hs103) same)
 have B108 := hTab.eff0 E105
 have hM110 : Mok ([b101] ++ []) w102 := (Mok.nil _).step E105 (nNew (flt1 (b := b101) (by omega)) same)
 refine L.done ?_
 show S _ _ _ c5_1 _ _ _ _
 refine S.seq (x := c5_1_0) (y := c5_1_1) (by kernel_rfl) ?_
 refine S.seq (x := c5_1_0_0) (y := c5_1_0_1) (by kernel_rfl) ?_
 refine S.reg (ops := o5_1_0_0) (js := [0, 1, 2]) (by kernel_rfl) (by kernel_rfl) ?_
 refine L.runU [0, 1, 2] [] [(12, sv q), (13, .int .i64 (((q.length : Nat) : Int))), (14, .bool (decide (200 < ((q.length : Nat) : Int))))] (by kernel_rfl) (by kernel_rfl) ?_
 refine L.done ?_
 show S _ _ _ c5_1_0_1 _ _ _ _
 refine S.condP (200 < ((q.length : Nat) : Int)) (o := (Operand.tmp 14)) (x := c5_n6) (y := c5_n9) (by kernel_rfl) (by kernel_rfl) (fun h111 => ?_) (fun h111 => ?_)
 ·refine S.seq (x := c5_n7) (y := c5_n8) (by kernel_rfl) ?_
  refine S.reg (ops := o5_n7) (js := [0, 1]) (by kernel_rfl) (by kernel_rfl) ?_
  refine L.call (f := 10) (by kernel_rfl : lookAt _ _ _ _ = some ((Op.call { callee := (Callee.value (Operand.func 10)), args := #[], argTypes := #[] }), some 15)) e10 (by kernel_rfl) (known_ok _ B108) ?_
  rintro _ w113 E114 rfl
  have hE116 := hE107.and0 E114
  have := E114.size
  have B117 := B108.eff0 E114
  have B118 := B106.eff0 E114
  have hM119 := hM110.eff E114
  refine L.store 0 [.bool true] [.bool true] (by kernel_rfl : lookAt _ _ _ _ = some ((Op.store 4 (Operand.tmp 2) (Operand.tmp 15)), none)) (by kernel_rfl) B118 (by kernel_rfl) (by kernel_rfl) (by kernel_rfl) (one_of_all (by kernel_rfl)) (by kernel_rfl) ?_
  intro w120 E121 hz122 B123
  have hE124 := hE116.and1 E121 (by omega)
  have := E121.size
  have B125 := B117.eff1 E121 (by omega)
  have hM126 := hM119.eff E121
  refine L.done ?_
  show S _ _ _ c5_n8 _ _ _ _
  refine S.ret (by kernel_rfl) ?_
  show Leave _ _ _ _ _ _ _ _
  refine Leave.ret1 (x := .cell 2 4) (.bool true) (by kernel_rfl) (.ofC 0 (by kernel_rfl) B123.cells (by kernel_rfl)) ?_
  refine ⟨_, rfl, hE124, ?_⟩
  rfl
 ·refine S.skip (by kernel_rfl) ?_
  show S _ _ _ c5_1_1 _ _ _ _
  refine S.seq (x := c5_1_1_0) (y := c5_1_1_1) (by kernel_rfl) ?_
  refine S.reg (ops := o5_1_1_0) (js := [0]) (by kernel_rfl) (by kernel_rfl) ?_
  refine L.runU [0] [] [(3, .pointer none)] (by kernel_rfl) (by kernel_rfl) ?_
  refine L.done ?_
  show S _ _ _ c5_1_1_1 _ _ _ _
  refine S.seq (x := c5_n13) (y := c5_n14) (by kernel_rfl) ?_
  refine S.reg (ops := o5_n13) (js := [0, 1, 2]) (by kernel_rfl) (by kernel_rfl) ?_
  refine L.runU [0] [1, 2] [(16, .agg #[.map none, .map none, .pointer none])] (by kernel_rfl) (by kernel_rfl) ?_
  refine L.box [.map none, .map none, .pointer none] (by kernel_rfl : lookAt _ _ _ _ = some ((Op.box 59 (Operand.tmp 16)), some 17)) (by kernel_rfl) ?_
  intro b127 w128 hs129 hz130 E131 B132
  have hE133 := hE107.and0 E131
  have := E131.size
  have nm135 := ninN nm109 B108.lt (nNew (fresh1 hs129) (nKeep same))
  have B134 := B108.eff0 E131
  have B136 := B106.eff0 E131
  have hM137 : Mok ([b127] ++ ([b101] ++ [])) w128 := hM110.step E131 (nNew (flt1 (b := b127) (by omega)) (nKeep same))
  refine L.runU [2] [] [(4, .pointer (some ⟨b127, 0, none⟩))] (by kernel_rfl) (by kernel_rfl) ?_
  refine L.done ?_
  show S _ _ _ c5_n14 _ _ _ _
  refine S.seq (x := c5_n15) (y := c5_n16) (by kernel_rfl) ?_
  refine S.reg (ops := o5_n15) (js := [0, 1, 2, 3, 4, 5, 6, 7, 8]) (by kernel_rfl) (by kernel_rfl) ?_
  refine L.runU [0, 1] [2, 3, 4, 5, 6, 7, 8] [(19, .pointer none), (20, sv q)] (by kernel_rfl) (by kernel_rfl) ?_
  refine L.call (f := 14) (by kernel_rfl : lookAt _ _ _ _ = some ((Op.call { callee := (Callee.value (Operand.func 14)), args := #[(Operand.tmp 19), (Operand.tmp 20)], argTypes := #[25, 9] }), some 21)) e14 (by kernel_rfl) (card_nil q _) ?_
  rintro _ w139 E140 rfl
  have hE142 := hE133.and0 E140
  have := E140.size
  have B143 := B134.eff0 E140
  have B144 := B136.eff0 E140
  have B145 := B132.eff0 E140
  have hM146 := hM137.eff E140
  refine L.runU [3, 4, 5] [6, 7, 8] [(18, .tuple #[.agg #[sv [], sv [], .slice none 0 0, .slice none 0 0, .slice none 0 0, .slice none 0 0, .slice none 0 0, .slice none 0 0, .slice none 0 0, .slice none 0 0], .bool false]), (22, .agg #[sv [], sv [], .slice none 0 0, .slice none 0 0, .slice none 0 0, .slice none 0 0, .slice none 0 0, .slice none 0 0, .slice none 0 0, .slice none 0 0]), (23, .bool false)] (by kernel_rfl) (by kernel_rfl) ?_
  refine L.alloc [sv [], sv [], .slice none 0 0, .slice none 0 0, .slice none 0 0, .slice none 0 0, .slice none 0 0, .slice none 0 0, .slice none 0 0, .slice none 0 0] (by kernel_rfl : lookAt _ _ _ _ = some ((Op.alloc 40), some 5)) (by kernel_rfl) ?_
  intro b147 w148 hs149 hz150 E151 B152
  have hE153 := hE142.and0 E151
  have := E151.size
  have nm155 := ninN nm135 B143.lt (nNew (fresh1 hs149) (nKeep (nKeep same)))
  have B154 := B143.eff0 E151
  have B156 := B144.eff0 E151
  have B157 := B145.eff0 E151
  have hM158 : Mok ([b147] ++ ([b127] ++ ([b101] ++ []))) w148 := hM146.step E151 (nNew (flt1 (b := b147) (by omega)) (nKeep (nKeep same)))
  refine L.store 0 [sv [], sv [], .slice none 0 0, .slice none 0 0, .slice none 0 0, .slice none 0 0, .slice none 0 0, .slice none 0 0, .slice none 0 0, .slice none 0 0] [sv [], sv [], .slice none 0 0, .slice none 0 0, .slice none 0 0, .slice none 0 0, .slice none 0 0, .slice none 0 0, .slice none 0 0, .slice none 0 0] (by kernel_rfl : lookAt _ _ _ _ = some ((Op.store 40 (Operand.tmp 5) (Operand.tmp 22)), none)) (by kernel_rfl) B152 (by kernel_rfl) (by kernel_rfl) (by kernel_rfl) (one_of_all (by kernel_rfl)) (by kernel_rfl) ?_
  intro w159 E160 hz161 B162
  have hE163 := hE153.and1 E160 (by omega)
  have := E160.size
  have B164 := B154.eff1 E160 (by omega)
  have B165 := B156.eff1 E160 (by omega)
  have B166 := B157.eff1 E160 (by omega)
  have hM167 := hM158.eff E160
  refine L.runU [8] [] [(6, .bool false)] (by kernel_rfl) (by kernel_rfl) ?_
  refine L.done ?_
  show S _ _ _ c5_n16 _ _ _ _
  refine S.seq (x := c5_n17) (y := c5_n18) (by kernel_rfl) ?_
  refine S.reg (ops := o5_n17) (js := [0, 1, 2, 3, 4, 5, 6, 7, 8]) (by kernel_rfl) (by kernel_rfl) ?_
  refine L.runU [0, 1] [2, 3, 4, 5, 6, 7, 8] [(25, .pointer (some ⟨b127, 0, none⟩)), (26, sv q)] (by kernel_rfl) (by kernel_rfl) ?_
  refine L.call (f := 15) (by kernel_rfl : lookAt _ _ _ _ = some ((Op.call { callee := (Callee.value (Operand.func 15)), args := #[(Operand.tmp 25), (Operand.tmp 26)], argTypes := #[25, 9] }), some 27)) e15 (by kernel_rfl) (entry_nil b127 q _ B166) ?_
  rintro _ w169 E170 rfl
  have hE172 := hE163.and0 E170
  have := E170.size
  have B173 := B164.eff0 E170
  have B174 := B165.eff0 E170
  have B175 := B166.eff0 E170
  have B176 := B162.eff0 E170
  have hM177 := hM167.eff E170
  refine L.runU [3, 4, 5] [6, 7, 8] [(24, .tuple #[.agg #[sv [], sv [], .slice none 0 0, .slice none 0 0, .slice none 0 0, .slice none 0 0, .slice none 0 0, .slice none 0 0, .slice none 0 0, .slice none 0 0], .bool false]), (28, .agg #[sv [], sv [], .slice none 0 0, .slice none 0 0, .slice none 0 0, .slice none 0 0, .slice none 0 0, .slice none 0 0, .slice none 0 0, .slice none 0 0]), (29, .bool false)] (by kernel_rfl) (by kernel_rfl) ?_
  refine L.alloc [sv [], sv [], .slice none 0 0, .slice none 0 0, .slice none 0 0, .slice none 0 0, .slice none 0 0, .slice none 0 0, .slice none 0 0, .slice none 0 0] (by kernel_rfl : lookAt _ _ _ _ = some ((Op.alloc 40), some 7)) (by kernel_rfl) ?_
  intro b178 w179 hs180 hz181 E182 B183
  have hE184 := hE172.and0 E182
  have := E182.size
  have nm186 := ninN nm155 B173.lt (nNew (fresh1 hs180) (nKeep (nKeep (nKeep same))))
  have B185 := B173.eff0 E182
  have B187 := B174.eff0 E182
  have B188 := B175.eff0 E182
  have B189 := B176.eff0 E182
  have hM190 : Mok ([b178] ++ ([b147] ++ ([b127] ++ ([b101] ++ [])))) w179 := hM177.step E182 (nNew (flt1 (b := b178) (by omega)) (nKeep (nKeep (nKeep same))))
  refine L.store 0 [sv [], sv [], .slice none 0 0, .slice none 0 0, .slice none 0 0, .slice none 0 0, .slice none 0 0, .slice none 0 0, .slice none 0 0, .slice none 0 0] [sv [], sv [], .slice none 0 0, .slice none 0 0, .slice none 0 0, .slice none 0 0, .slice none 0 0, .slice none 0 0, .slice none 0 0, .slice none 0 0] (by kernel_rfl : lookAt _ _ _ _ = some ((Op.store 40 (Operand.tmp 7) (Operand.tmp 28)), none)) (by kernel_rfl) B183 (by kernel_rfl) (by kernel_rfl) (by kernel_rfl) (one_of_all (by kernel_rfl)) (by kernel_rfl) ?_
  intro w191 E192 hz193 B194
  have hE195 := hE184.and1 E192 (by omega)
  have := E192.size
  have B196 := B185.eff1 E192 (by omega)
  have B197 := B187.eff1 E192 (by omega)
  have B198 := B188.eff1 E192 (by omega)
  have B199 := B189.eff1 E192 (by omega)
  have hM200 := hM190.eff E192
  refine L.runU [8] [] [(8, .bool false)] (by kernel_rfl) (by kernel_rfl) ?_
  refine L.done ?_
  show S _ _ _ c5_n18 _ _ _ _
  refine S.seq (x := c5_n19) (y := c5_n20) (by kernel_rfl) ?_
  refine S.reg (ops := o5_n19) (js := [0, 1, 2, 3, 4, 5, 6, 7]) (by kernel_rfl) (by kernel_rfl) ?_
  refine L.runU [0] [1, 2, 3, 4, 5, 6, 7] [(31, .pointer none)] (by kernel_rfl) (by kernel_rfl) ?_
  refine L.call (f := 23) (by kernel_rfl : lookAt _ _ _ _ = some ((Op.call { callee := (Callee.value (Operand.func 23)), args := #[(Operand.tmp 31)], argTypes := #[25] }), some 32)) e23 (by kernel_rfl) (promised_nil _) ?_
  rintro _ w202 E203 rfl
  have hE205 := hE195.and0 E203
  have := E203.size
  have B206 := B196.eff0 E203
  have B207 := B197.eff0 E203
  have B208 := B198.eff0 E203
  have B209 := B199.eff0 E203
  have B210 := B194.eff0 E203
  have hM211 := hM200.eff E203
  refine L.runU [2, 3, 4] [5, 6, 7] [(30, .tuple #[.agg #[sv [], sv [], .slice none 0 0, .slice none 0 0, .slice none 0 0, .slice none 0 0, .slice none 0 0, .slice none 0 0, .slice none 0 0, .slice none 0 0, .slice none 0 0], .bool false]), (33, .agg #[sv [], sv [], .slice none 0 0, .slice none 0 0, .slice none 0 0, .slice none 0 0, .slice none 0 0, .slice none 0 0, .slice none 0 0, .slice none 0 0, .slice none 0 0]), (34, .bool false)] (by kernel_rfl) (by kernel_rfl) ?_
  refine L.alloc [sv [], sv [], .slice none 0 0, .slice none 0 0, .slice none 0 0, .slice none 0 0, .slice none 0 0, .slice none 0 0, .slice none 0 0, .slice none 0 0, .slice none 0 0] (by kernel_rfl : lookAt _ _ _ _ = some ((Op.alloc 34), some 9)) (by kernel_rfl) ?_
  intro b212 w213 hs214 hz215 E216 B217
  have hE218 := hE205.and0 E216
  have := E216.size
  have nm220 := ninN nm186 B206.lt (nNew (fresh1 hs214) (nKeep (nKeep (nKeep (nKeep same)))))
  have B219 := B206.eff0 E216
  have B221 := B207.eff0 E216
  have B222 := B208.eff0 E216
  have B223 := B209.eff0 E216
  have B224 := B210.eff0 E216
  have hM225 : Mok ([b212] ++ ([b178] ++ ([b147] ++ ([b127] ++ ([b101] ++ []))))) w213 := hM211.step E216 (nNew (flt1 (b := b212) (by omega)) (nKeep (nKeep (nKeep (nKeep same)))))
  refine L.store 0 [sv [], sv [], .slice none 0 0, .slice none 0 0, .slice none 0 0, .slice none 0 0, .slice none 0 0, .slice none 0 0, .slice none 0 0, .slice none 0 0, .slice none 0 0] [sv [], sv [], .slice none 0 0, .slice none 0 0, .slice none 0 0, .slice none 0 0, .slice none 0 0, .slice none 0 0, .slice none 0 0, .slice none 0 0, .slice none 0 0] (by kernel_rfl : lookAt _ _ _ _ = some ((Op.store 34 (Operand.tmp 9) (Operand.tmp 33)), none)) (by kernel_rfl) B217 (by kernel_rfl) (by kernel_rfl) (by kernel_rfl) (one_of_all (by kernel_rfl)) (by kernel_rfl) ?_
  intro w226 E227 hz228 B229
  have hE230 := hE218.and1 E227 (by omega)
  have := E227.size
  have B231 := B219.eff1 E227 (by omega)
  have B232 := B221.eff1 E227 (by omega)
  have B233 := B222.eff1 E227 (by omega)
  have B234 := B223.eff1 E227 (by omega)
  have B235 := B224.eff1 E227 (by omega)
  have hM236 := hM225.eff E227
  refine L.runU [7] [] [(10, .bool false)] (by kernel_rfl) (by kernel_rfl) ?_
  refine L.done ?_
  show S _ _ _ c5_n20 _ _ _ _
  refine S.seq (x := c5_n21) (y := c5_n22) (by kernel_rfl) ?_
  refine S.reg (ops := o5_n21) (js := [0, 1, 2]) (by kernel_rfl) (by kernel_rfl) ?_
  refine L.runU [0] [1, 2] [(35, .pointer none)] (by kernel_rfl) (by kernel_rfl) ?_
  refine L.call (f := 24) (by kernel_rfl : lookAt _ _ _ _ = some ((Op.call { callee := (Callee.value (Operand.func 24)), args := #[(Operand.tmp 35)], argTypes := #[25] }), some 36)) e24 (by kernel_rfl) (all_nil _) ?_
  rintro _ w238 E239 ⟨b241, rfl, B242, hb243⟩
  have nm244 := not_mem_of_ge (b := b241) hM236 hb243
  have hE246 := hE230.and0 E239
  have := E239.size
  have B247 := B231.eff0 E239
  have B248 := B232.eff0 E239
  have B249 := B233.eff0 E239
  have B250 := B234.eff0 E239
  have B251 := B235.eff0 E239
  have B252 := B229.eff0 E239
  have hM253 := hM236.eff E239
  have := B242.lt
  have R245 : Sl kPg ([b212] ++ ([b178] ++ ([b147] ++ ([b127] ++ ([b101] ++ []))))) w238 none ([] : List Pg) := Sl.nil _ _ _ _
  refine L.runU [2] [] [(11, .func (.func 49) #[] #[.pointer (some ⟨b241, 0, none⟩)])] (by kernel_rfl) (by kernel_rfl) ?_
  refine L.done ?_
  show S _ _ _ c5_n22 _ _ _ _
  refine S.seq (x := c5_n23) (y := c5_n30) (by kernel_rfl) ?_
  refine S.seq (x := c5_n24) (y := c5_n25) (by kernel_rfl) ?_
  refine S.reg (ops := o5_n24) (js := [0, 1]) (by kernel_rfl) (by kernel_rfl) ?_
  refine L.runU [0, 1] [] [(37, .func (.func 49) #[] #[.pointer (some ⟨b241, 0, none⟩)]), (38, .bool false)] (by kernel_rfl) (by kernel_rfl) ?_
  refine L.done ?_
  show S _ _ _ c5_n25 _ _ _ _
  refine S.condF (o := (Operand.tmp 38)) (x := c5_n26) (y := c5_n29) (by kernel_rfl) (by kernel_rfl) ?_
  refine S.skip (by kernel_rfl) ?_
  show S _ _ _ c5_n30 _ _ _ _
  refine S.seq (x := c5_n31) (y := c5_n40) (by kernel_rfl) ?_
  refine S.seq (x := c5_n32) (y := c5_n33) (by kernel_rfl) ?_
  refine S.reg (ops := o5_n32) (js := [0]) (by kernel_rfl) (by kernel_rfl) ?_
  refine L.runU [0] [] [(39, .func (.func 49) #[] #[.pointer (some ⟨b241, 0, none⟩)])] (by kernel_rfl) (by kernel_rfl) ?_
  refine L.done ?_
  show S _ _ _ c5_n33 _ _ _ _
  refine S.block (id := 0) (x := c5_n34) (by kernel_rfl) ?_
  have := B247.lt
  have := B248.lt
  have := B249.lt
  have := B250.lt
  have := B251.lt
  have := B252.lt
  have := B242.lt
  obtain ⟨D254, hD256⟩ : ∃ D, w238.heap.size = D := ⟨_, rfl⟩
  obtain ⟨l255, hl257⟩ : ∃ l, D254 + 1 = l := ⟨_, rfl⟩
  refine S.range (α := Nat × Pg) (g := (Operand.tmp 39)) (ps := #[40, 41]) (assign := c5_n35) (body := c5_n36) (gf := 49) (lb := #[.pointer (some ⟨b241, 0, none⟩)]) false D254 l255 (encPg none ([] : List Pg)) (nxL ([] : List Pg)) (finL ([] : List Pg)) (fun N m pre w' => m ≤ w'.heap.size ∧ (∀ b, b ∈ [l255] ++ ([D254] ++ ([b212] ++ ([b178] ++ ([b147] ++ ([b127] ++ ([b101] ++ [])))))) → b < m) ∧ l255 < w'.heap.size ∧ TabP w' ∧ 1 ∉ [l255] ++ ([D254] ++ ([b212] ++ ([b178] ++ ([b147] ++ ([b127] ++ ([b101] ++ [])))))) ∧ Blk w' b101 ([.bool false]) 4 ∧ Blk w' b127 ([.map none, .map none, .pointer none]) 59 ∧ Blk w' b147 ([sv [], sv [], .slice none 0 0, .slice none 0 0, .slice none 0 0, .slice none 0 0, .slice none 0 0, .slice none 0 0, .slice none 0 0, .slice none 0 0]) 40 ∧ Blk w' b178 ([sv [], sv [], .slice none 0 0, .slice none 0 0, .slice none 0 0, .slice none 0 0, .slice none 0 0, .slice none 0 0, .slice none 0 0, .slice none 0 0]) 40 ∧ Blk w' b212 ([sv [], sv [], .slice none 0 0, .slice none 0 0, .slice none 0 0, .slice none 0 0, .slice none 0 0, .slice none 0 0, .slice none 0 0, .slice none 0 0, .slice none 0 0]) 34 ∧ Blk w' b241 ([.slice none 0 0]) 27 ∧ b241 ∉ [l255] ++ ([D254] ++ ([b212] ++ ([b178] ++ ([b147] ++ ([b127] ++ ([b101] ++ [])))))) ∧ Sl kPg ([l255] ++ ([D254] ++ ([b212] ++ ([b178] ++ ([b147] ++ ([b127] ++ ([b101] ++ []))))))) w' none ([] : List Pg) ∧ Eff [] w w' ∧ True) (fun e w' => False) (by kernel_rfl) (by kernel_rfl) e49 (by kernel_rfl) hD256 hl257 ?_ ?_ ?_ nofun nofun ?_ ?_ ?_ ?_ ?_
  ·intro w258 E259 hs260
   have hE261 := hE246.and0 E259
   have := E259.size
   have nm263 := ninN nm220 B247.lt (nNew (fresh1' (b := l255) (by omega)) (nNew (fresh1' (b := D254) (by omega)) (nKeep (nKeep (nKeep (nKeep (nKeep same)))))))
   have B262 := B247.eff0 E259
   have B264 := B248.eff0 E259
   have B265 := B249.eff0 E259
   have B266 := B250.eff0 E259
   have B267 := B251.eff0 E259
   have B268 := B252.eff0 E259
   have nm270 := ninN nm244 B242.lt (nNew (fresh1' (b := l255) (by omega)) (nNew (fresh1' (b := D254) (by omega)) (nKeep (nKeep (nKeep (nKeep (nKeep same)))))))
   have B269 := B242.eff0 E259
   have R271 := R245.step (nNew (fresh1' (b := l255) (by omega)) (nNew (fresh1' (b := D254) (by omega)) (nKeep (nKeep (nKeep (nKeep (nKeep same))))))) E259 no0
   have hM272 : Mok ([l255] ++ ([D254] ++ ([b212] ++ ([b178] ++ ([b147] ++ ([b127] ++ ([b101] ++ []))))))) w258 := hM253.step E259 (nNew (flt1 (b := l255) (by omega)) (nNew (flt1 (b := D254) (by omega)) (nKeep (nKeep (nKeep (nKeep (nKeep same)))))))
   exact ⟨(Nat.le_refl _), hM272, (by omega), B262, nm263, B264, B265, B266, B267, B268, B269, nm270, R271, hE261, trivial⟩
  ·rintro N279 m278 pre w273 w274 ⟨hm280, hb281, hlt282, F283, nm284, F285, F286, F287, F288, F289, F290, nm291, F292, hE293, -⟩ E275 hs276 hlt277
   have hE294 := hE293.and1 E275 (by omega)
   have := E275.size
   have B295 := F283.eff1 E275 (by omega)
   have B296 := F285.eff1 E275 (by omega)
   have B297 := F286.eff1 E275 (by omega)
   have B298 := F287.eff1 E275 (by omega)
   have B299 := F288.eff1 E275 (by omega)
   have B300 := F289.eff1 E275 (by omega)
   have B301 := F290.eff1 E275 (by omega)
   have R302 := F292.step same E275 (in1 (List.mem_append_left _ (List.mem_singleton.2 rfl)))
   have hM303 := (bnd_mok hb281 hm280).eff E275
   exact ⟨(Nat.le_trans hm280 E275.size), hb281, (Nat.lt_of_lt_of_le hlt282 E275.size), B295, nm284, B296, B297, B298, B299, B300, B301, nm291, R302, hE294, trivial⟩
  ·rintro N310 m309 pre w304 w305 ⟨hm311, hb312, hlt313, F314, nm315, F316, F317, F318, F319, F320, F321, nm322, F323, hE324, -⟩ E306
   have hE325 := hE324.and0 E306
   have := E306.size
   have B326 := F314.eff0 E306
   have B327 := F316.eff0 E306
   have B328 := F317.eff0 E306
   have B329 := F318.eff0 E306
   have B330 := F319.eff0 E306
   have B331 := F320.eff0 E306
   have B332 := F321.eff0 E306
   have R333 := F323.step same E306 no0
   have hM334 := (bnd_mok hb312 hm311).eff E306
   exact ⟨(Nat.le_trans hm311 E306.size), hb312, (Nat.lt_of_lt_of_le hlt313 E306.size), B326, nm315, B327, B328, B329, B330, B331, B332, nm322, R333, hE325, trivial⟩
  ·rintro e w1 w2 h
   exact h.elim
  ·intro w340 J' hs341 E342 hJ343 hst344 _ _
   refine iter49 b241 none 0 ([] : List Pg) J' _ (fun N m pre w h => ?_) hst344 (fun _ h => absurd h (by simp))
   obtain ⟨hm345, hb346, hlt347, F348, nm349, F350, F351, F352, F353, F354, F355, nm356, F357, hE358, -⟩ := hJ343 N m pre w h
   exact ⟨F355, F357.wk0⟩
  ·rintro N362 m361 pre x args w359 ⟨hm363, hb364, hlt365, F366, nm367, F368, F369, F370, F371, F372, F373, nm374, F375, hE376, -⟩ hx he hlt360
   have hM377 : Mok ([l255] ++ ([D254] ++ ([b212] ++ ([b178] ++ ([b147] ++ ([b127] ++ ([b101] ++ []))))))) w359 := (bnd_mok hb364 hm363)
   obtain ⟨_, x⟩ := x
   exact absurd hx.2.1 (by simp)
  ·rintro N382 m381 pre w378 hF ⟨hm383, hb384, hlt385, F386, nm387, F388, F389, F390, F391, F392, F393, nm394, F395, hE396, -⟩ hlt379 DB380
   have hM397 : Mok ([l255] ++ ([D254] ++ ([b212] ++ ([b178] ++ ([b147] ++ ([b127] ++ ([b101] ++ []))))))) w378 := bnd_mok hb384 hm383
   show S _ _ _ c5_n40 _ _ _ _
   refine S.seq (x := c5_n41) (y := c5_n42) (by kernel_rfl) ?_
   refine S.reg (ops := o5_n41) (js := [0, 1, 2, 3, 4, 5, 6, 7, 8, 9, 10, 11, 12, 13, 14, 15, 16, 17, 18, 19, 20, 21, 22, 23, 24, 25, 26, 27, 28, 29, 30, 31, 32, 33, 34, 35, 36, 37, 38, 39, 40, 41, 42, 43, 44, 45, 46, 47, 48, 49, 50, 51, 52, 53, 54, 55, 56, 57, 58, 59, 60, 61, 62, 63, 64, 65, 66, 67, 68, 69, 70, 71]) (by kernel_rfl) (by kernel_rfl) ?_
   refine L.runU [0, 1, 2, 3, 4, 5, 6, 7, 8, 9, 10, 11, 12] [13, 14, 15, 16, 17, 18, 19, 20, 21, 22, 23, 24, 25, 26, 27, 28, 29, 30, 31, 32, 33, 34, 35, 36, 37, 38, 39, 40, 41, 42, 43, 44, 45, 46, 47, 48, 49, 50, 51, 52, 53, 54, 55, 56, 57, 58, 59, 60, 61, 62, 63, 64, 65, 66, 67, 68, 69, 70, 71] [(42, .bool false), (43, .bool true), (44, .bool true), (45, .bool false), (46, .bool true), (47, .bool true), (48, .bool true), (49, .bool false), (50, .bool true), (51, .bool true), (52, .bool true), (53, .pointer none), (54, .agg #[sv [], sv [], .slice none 0 0, .slice none 0 0, .slice none 0 0, .slice none 0 0, .slice none 0 0, .slice none 0 0, .slice none 0 0, .slice none 0 0, .slice none 0 0])] (by kernel_rfl) (by kernel_rfl) ?_
   refine L.call (f := 25) (by kernel_rfl : lookAt _ _ _ _ = some ((Op.call { callee := (Callee.value (Operand.func 25)), args := #[(Operand.tmp 53), (Operand.tmp 54)], argTypes := #[25, 34] }), some 55)) e25 (by kernel_rfl) (promise_nil _) ?_
   rintro _ w399 E400 rfl
   have hE402 := hE396.and0 E400
   have := E400.size
   have B403 := F386.eff0 E400
   have B404 := F388.eff0 E400
   have B405 := F389.eff0 E400
   have B406 := F390.eff0 E400
   have B407 := F391.eff0 E400
   have B408 := F392.eff0 E400
   have B409 := F393.eff0 E400
   have R410 := F395.step same E400 no0
   have DB411 := DB380.eff E400 (by simp)
   have hM412 := hM397.eff E400
   refine L.runU [14, 15, 16, 17] [18, 19, 20, 21, 22, 23, 24, 25, 26, 27, 28, 29, 30, 31, 32, 33, 34, 35, 36, 37, 38, 39, 40, 41, 42, 43, 44, 45, 46, 47, 48, 49, 50, 51, 52, 53, 54, 55, 56, 57, 58, 59, 60, 61, 62, 63, 64, 65, 66, 67, 68, 69, 70, 71] [(56, .bool true), (57, .bool true), (58, .bool true), (59, .pointer (some ⟨b127, 0, none⟩))] (by kernel_rfl) (by kernel_rfl) ?_
   refine L.call (f := 26) (by kernel_rfl : lookAt _ _ _ _ = some ((Op.call { callee := (Callee.value (Operand.func 26)), args := #[(Operand.tmp 59)], argTypes := #[25] }), some 60)) e26 (by kernel_rfl) (clear_nil b127 _ B405) ?_
   rintro _ w414 E415 rfl
   have hE417 := hE402.and0 E415
   have := E415.size
   have B418 := B403.eff0 E415
   have B419 := B404.eff0 E415
   have B420 := B405.eff0 E415
   have B421 := B406.eff0 E415
   have B422 := B407.eff0 E415
   have B423 := B408.eff0 E415
   have B424 := B409.eff0 E415
   have R425 := R410.step same E415 no0
   have DB426 := DB411.eff E415 (by simp)
   have hM427 := hM412.eff E415
   refine L.runU [19, 20, 21, 22, 23, 24] [25, 26, 27, 28, 29, 30, 31, 32, 33, 34, 35, 36, 37, 38, 39, 40, 41, 42, 43, 44, 45, 46, 47, 48, 49, 50, 51, 52, 53, 54, 55, 56, 57, 58, 59, 60, 61, 62, 63, 64, 65, 66, 67, 68, 69, 70, 71] [(61, .bool true), (62, .bool true), (63, .bool true), (64, .pointer none), (65, sv q), (66, .agg #[sv q, sv [], .slice none 0 0, .slice none 0 0, .slice none 0 0, .slice none 0 0, .slice none 0 0, .slice none 0 0, .slice none 0 0, .slice none 0 0])] (by kernel_rfl) (by kernel_rfl) ?_
   refine L.call (f := 27) (by kernel_rfl : lookAt _ _ _ _ = some ((Op.call { callee := (Callee.value (Operand.func 27)), args := #[(Operand.tmp 64), (Operand.tmp 66)], argTypes := #[25, 40] }), some 67)) e27 (by kernel_rfl) (add_nil q _) ?_
   rintro _ w429 E430 rfl
   have hE432 := hE417.and0 E430
   have := E430.size
   have B433 := B418.eff0 E430
   have B434 := B419.eff0 E430
   have B435 := B420.eff0 E430
   have B436 := B421.eff0 E430
   have B437 := B422.eff0 E430
   have B438 := B423.eff0 E430
   have B439 := B424.eff0 E430
   have R440 := R425.step same E430 no0
   have DB441 := DB426.eff E430 (by simp)
   have hM442 := hM427.eff E430
   refine L.runU [26, 27, 28, 29, 30] [31, 32, 33, 34, 35, 36, 37, 38, 39, 40, 41, 42, 43, 44, 45, 46, 47, 48, 49, 50, 51, 52, 53, 54, 55, 56, 57, 58, 59, 60, 61, 62, 63, 64, 65, 66, 67, 68, 69, 70, 71] [(68, .bool true), (69, .bool true), (70, .bool true), (71, .pointer (some ⟨b127, 0, none⟩)), (72, sv q)] (by kernel_rfl) (by kernel_rfl) ?_
   refine L.call (f := 29) (by kernel_rfl : lookAt _ _ _ _ = some ((Op.call { callee := (Callee.value (Operand.func 29)), args := #[], argTypes := #[] }), some 73)) e29 (by kernel_rfl) (somebody_ok ([l255] ++ ([D254] ++ ([b212] ++ ([b178] ++ ([b147] ++ ([b127] ++ ([b101] ++ []))))))) _ hM442) ?_
   rintro _ w446 E447 ⟨cs443, rfl, R444⟩
   obtain ⟨v449, v450, v451, v452, v453, v454, v455, v456, rfl, C457⟩ := R444
   have hE458 := hE432.and0 E447
   have := E447.size
   have B459 := B433.eff0 E447
   have B460 := B434.eff0 E447
   have B461 := B435.eff0 E447
   have B462 := B436.eff0 E447
   have B463 := B437.eff0 E447
   have B464 := B438.eff0 E447
   have B465 := B439.eff0 E447
   have R466 := R440.step same E447 no0
   have DB467 := DB441.eff E447 (by simp)
   have hM468 := hM442.eff E447
   refine L.call (f := 28) (by kernel_rfl : lookAt _ _ _ _ = some ((Op.call { callee := (Callee.value (Operand.func 28)), args := #[(Operand.tmp 71), (Operand.tmp 72), (Operand.tmp 73)], argTypes := #[25, 9, 32] }), some 74)) e28 (by kernel_rfl) (set_nil b127 q [v449, v450, v451, v452, v453, v454, v455, v456] annC _ B461 (Kd.wk0 kCt (M := [l255] ++ ([D254] ++ ([b212] ++ ([b178] ++ ([b147] ++ ([b127] ++ ([b101] ++ []))))))) (w := w446) (cs := [v449, v450, v451, v452, v453, v454, v455, v456]) (x := annC) ⟨_, _, _, _, _, _, _, _, rfl, C457⟩)) ?_
   rintro _ w470 E471 rfl
   have hE473 := hE458.and0 E471
   have := E471.size
   have B474 := B459.eff0 E471
   have B475 := B460.eff0 E471
   have B476 := B461.eff0 E471
   have B477 := B462.eff0 E471
   have B478 := B463.eff0 E471
   have B479 := B464.eff0 E471
   have B480 := B465.eff0 E471
   have R481 := R466.step same E471 no0
   have DB482 := DB467.eff E471 (by simp)
   have C483 := Kd.step (Kd.array 8 [] (Kd.slice Kd.str) rfl) C457 same E471 no0
   have hM484 := hM468.eff E471
   refine L.runU [33, 34, 35, 36, 37] [38, 39, 40, 41, 42, 43, 44, 45, 46, 47, 48, 49, 50, 51, 52, 53, 54, 55, 56, 57, 58, 59, 60, 61, 62, 63, 64, 65, 66, 67, 68, 69, 70, 71] [(75, .bool true), (76, .bool true), (77, .bool true), (78, .pointer none), (79, sv q)] (by kernel_rfl) (by kernel_rfl) ?_
   refine L.call (f := 30) (by kernel_rfl : lookAt _ _ _ _ = some ((Op.call { callee := (Callee.value (Operand.func 30)), args := #[(Operand.tmp 78), (Operand.tmp 79)], argTypes := #[25, 9] }), some 80)) e30 (by kernel_rfl) (drop_nil q _) ?_
   rintro _ w486 E487 rfl
   have hE489 := hE473.and0 E487
   have := E487.size
   have B490 := B474.eff0 E487
   have B491 := B475.eff0 E487
   have B492 := B476.eff0 E487
   have B493 := B477.eff0 E487
   have B494 := B478.eff0 E487
   have B495 := B479.eff0 E487
   have B496 := B480.eff0 E487
   have R497 := R481.step same E487 no0
   have DB498 := DB482.eff E487 (by simp)
   have C499 := Kd.step (Kd.array 8 [] (Kd.slice Kd.str) rfl) C483 same E487 no0
   have hM500 := hM484.eff E487
   refine L.runU [39, 40, 41, 42] [43, 44, 45, 46, 47, 48, 49, 50, 51, 52, 53, 54, 55, 56, 57, 58, 59, 60, 61, 62, 63, 64, 65, 66, 67, 68, 69, 70, 71] [(81, .bool true), (82, .bool true), (83, .bool true), (84, .pointer (some ⟨b127, 0, none⟩))] (by kernel_rfl) (by kernel_rfl) ?_
   refine L.call (f := 31) (by kernel_rfl : lookAt _ _ _ _ = some ((Op.call { callee := (Callee.value (Operand.func 31)), args := #[(Operand.tmp 84)], argTypes := #[25] }), some 85)) e31 (by kernel_rfl) (rows_nil b127 _ B492) ?_
   rintro _ w502 E503 rfl
   have hE505 := hE489.and0 E503
   have := E503.size
   have B506 := B490.eff0 E503
   have B507 := B491.eff0 E503
   have B508 := B492.eff0 E503
   have B509 := B493.eff0 E503
   have B510 := B494.eff0 E503
   have B511 := B495.eff0 E503
   have B512 := B496.eff0 E503
   have R513 := R497.step same E503 no0
   have DB514 := DB498.eff E503 (by simp)
   have C515 := Kd.step (Kd.array 8 [] (Kd.slice Kd.str) rfl) C499 same E503 no0
   have hM516 := hM500.eff E503
   refine L.runU [44, 45, 46, 47, 48] [49, 50, 51, 52, 53, 54, 55, 56, 57, 58, 59, 60, 61, 62, 63, 64, 65, 66, 67, 68, 69, 70, 71] [(86, .int .i64 0), (87, .bool true), (88, .bool true), (89, .bool true), (90, .pointer none)] (by kernel_rfl) (by kernel_rfl) ?_
   refine L.call (f := 32) (by kernel_rfl : lookAt _ _ _ _ = some ((Op.call { callee := (Callee.value (Operand.func 32)), args := #[(Operand.tmp 90)], argTypes := #[25] }), some 91)) e32 (by kernel_rfl) (len_nil _) ?_
   rintro _ w518 E519 rfl
   have hE521 := hE505.and0 E519
   have := E519.size
   have B522 := B506.eff0 E519
   have B523 := B507.eff0 E519
   have B524 := B508.eff0 E519
   have B525 := B509.eff0 E519
   have B526 := B510.eff0 E519
   have B527 := B511.eff0 E519
   have B528 := B512.eff0 E519
   have R529 := R513.step same E519 no0
   have DB530 := DB514.eff E519 (by simp)
   have C531 := Kd.step (Kd.array 8 [] (Kd.slice Kd.str) rfl) C515 same E519 no0
   have hM532 := hM516.eff E519
   refine L.runU [50, 51, 52, 53] [54, 55, 56, 57, 58, 59, 60, 61, 62, 63, 64, 65, 66, 67, 68, 69, 70, 71] [(92, .bool true), (93, .bool true), (94, .bool true), (95, .pointer (some ⟨b127, 0, none⟩))] (by kernel_rfl) (by kernel_rfl) ?_
   refine L.call (f := 19) (by kernel_rfl : lookAt _ _ _ _ = some ((Op.call { callee := (Callee.value (Operand.func 19)), args := #[(Operand.tmp 95)], argTypes := #[25] }), some 96)) e19 (by kernel_rfl) (copy_nil b127 _ B524) ?_
   rintro _ w534 E535 rfl
   have hE537 := hE521.and0 E535
   have := E535.size
   have B538 := B522.eff0 E535
   have B539 := B523.eff0 E535
   have B540 := B524.eff0 E535
   have B541 := B525.eff0 E535
   have B542 := B526.eff0 E535
   have B543 := B527.eff0 E535
   have B544 := B528.eff0 E535
   have R545 := R529.step same E535 no0
   have DB546 := DB530.eff E535 (by simp)
   have C547 := Kd.step (Kd.array 8 [] (Kd.slice Kd.str) rfl) C531 same E535 no0
   have hM548 := hM532.eff E535
   refine L.runU [55, 56, 57, 58, 59] [60, 61, 62, 63, 64, 65, 66, 67, 68, 69, 70, 71] [(97, .bool true), (98, .bool true), (99, .bool true), (100, .pointer none), (101, .pointer (some ⟨b127, 0, none⟩))] (by kernel_rfl) (by kernel_rfl) ?_
   refine L.call (f := 20) (by kernel_rfl : lookAt _ _ _ _ = some ((Op.call { callee := (Callee.value (Operand.func 20)), args := #[(Operand.tmp 100), (Operand.tmp 101)], argTypes := #[25, 25] }), some 102)) e20 (by kernel_rfl) (same_nilz b127 _ B540) ?_
   rintro _ w550 E551 rfl
   have hE553 := hE537.and0 E551
   have := E551.size
   have B554 := B538.eff0 E551
   have B555 := B539.eff0 E551
   have B556 := B540.eff0 E551
   have B557 := B541.eff0 E551
   have B558 := B542.eff0 E551
   have B559 := B543.eff0 E551
   have B560 := B544.eff0 E551
   have R561 := R545.step same E551 no0
   have DB562 := DB546.eff E551 (by simp)
   have C563 := Kd.step (Kd.array 8 [] (Kd.slice Kd.str) rfl) C547 same E551 no0
   have hM564 := hM548.eff E551
   refine L.runU [61, 62, 63] [64, 65, 66, 67, 68, 69, 70, 71] [(103, .bool true), (104, .bool true), (105, .pointer none)] (by kernel_rfl) (by kernel_rfl) ?_
   refine L.call (f := 11) (by kernel_rfl : lookAt _ _ _ _ = some ((Op.call { callee := (Callee.value (Operand.func 11)), args := #[], argTypes := #[] }), some 106)) e11 (by kernel_rfl) (new_ps _) ?_
   rintro _ w570 E571 ⟨pb565, b566, b567, rfl, _, _, _, _, _, _, _, _, _, hall568⟩
   have hE573 := hE553.and0 E571
   have := E571.size
   have nm575 := ninN nm387 B554.lt (nNew (fresh1' (b := pb565) (by omega)) (nNew (fresh1' (b := b566) (by omega)) (nNew (fresh1' (b := b567) (by omega)) (nKeep (nKeep (nKeep (nKeep (nKeep (nKeep (nKeep same))))))))))
   have B574 := B554.eff0 E571
   have B576 := B555.eff0 E571
   have B577 := B556.eff0 E571
   have B578 := B557.eff0 E571
   have B579 := B558.eff0 E571
   have B580 := B559.eff0 E571
   have nm582 := ninN nm394 B560.lt (nNew (fresh1' (b := pb565) (by omega)) (nNew (fresh1' (b := b566) (by omega)) (nNew (fresh1' (b := b567) (by omega)) (nKeep (nKeep (nKeep (nKeep (nKeep (nKeep (nKeep same))))))))))
   have B581 := B560.eff0 E571
   have R583 := R561.step (nNew (fresh1' (b := pb565) (by omega)) (nNew (fresh1' (b := b566) (by omega)) (nNew (fresh1' (b := b567) (by omega)) (nKeep (nKeep (nKeep (nKeep (nKeep (nKeep (nKeep same)))))))))) E571 no0
   have DB584 := DB562.eff E571 (by simp)
   have C585 := Kd.step (Kd.array 8 [] (Kd.slice Kd.str) rfl) C563 (nNew (fresh1' (b := pb565) (by omega)) (nNew (fresh1' (b := b566) (by omega)) (nNew (fresh1' (b := b567) (by omega)) (nKeep (nKeep (nKeep (nKeep (nKeep (nKeep (nKeep same)))))))))) E571 no0
   have hM586 : Mok ([pb565] ++ ([b566] ++ ([b567] ++ ([l255] ++ ([D254] ++ ([b212] ++ ([b178] ++ ([b147] ++ ([b127] ++ ([b101] ++ [])))))))))) w570 := hM564.step E571 (nNew (flt1 (b := pb565) (by omega)) (nNew (flt1 (b := b566) (by omega)) (nNew (flt1 (b := b567) (by omega)) (nKeep (nKeep (nKeep (nKeep (nKeep (nKeep (nKeep same))))))))))
   have PS587 := hall568 _ hM586 (List.mem_append_left _ (List.mem_singleton.2 rfl)) (List.mem_append_right _ (List.mem_append_left _ (List.mem_singleton.2 rfl))) (List.mem_append_right _ (List.mem_append_right _ (List.mem_append_left _ (List.mem_singleton.2 rfl))))
   obtain ⟨z588, B589, -⟩ := PS587.obj
   refine L.call (f := 20) (by kernel_rfl : lookAt _ _ _ _ = some ((Op.call { callee := (Callee.value (Operand.func 20)), args := #[(Operand.tmp 105), (Operand.tmp 106)], argTypes := #[25, 25] }), some 107)) e20 (by kernel_rfl) (same_nilnew pb565 b566 _ _ _ B589) ?_
   rintro _ w591 E592 rfl
   have hE594 := hE573.and0 E592
   have := E592.size
   have hM595 := hM586.eff E592
   have B596 := B574.eff0 E592
   have B597 := B576.eff0 E592
   have B598 := B577.eff0 E592
   have B599 := B578.eff0 E592
   have B600 := B579.eff0 E592
   have B601 := B580.eff0 E592
   have B602 := B581.eff0 E592
   have R603 := R583.step same E592 no0
   have DB604 := DB584.eff E592 (by simp)
   have C605 := Kd.step (Kd.array 8 [] (Kd.slice Kd.str) rfl) C585 same E592 no0
   have PS606 := PS587.eff0 E592
   refine L.runU [66, 67, 68] [69, 70, 71] [(108, .bool true), (109, .bool true), (110, .bool true)] (by kernel_rfl) (by kernel_rfl) ?_
   refine L.call (f := 10) (by kernel_rfl : lookAt _ _ _ _ = some ((Op.call { callee := (Callee.value (Operand.func 10)), args := #[], argTypes := #[] }), some 111)) e10 (by kernel_rfl) (known_ok _ B596) ?_
   rintro _ w608 E609 rfl
   have hE611 := hE594.and0 E609
   have := E609.size
   have hM612 := hM595.eff E609
   have B613 := B596.eff0 E609
   have B614 := B597.eff0 E609
   have B615 := B598.eff0 E609
   have B616 := B599.eff0 E609
   have B617 := B600.eff0 E609
   have B618 := B601.eff0 E609
   have B619 := B602.eff0 E609
   have R620 := R603.step same E609 no0
   have DB621 := DB604.eff E609 (by simp)
   have C622 := Kd.step (Kd.array 8 [] (Kd.slice Kd.str) rfl) C605 same E609 no0
   have PS623 := PS606.eff0 E609
   refine L.runU [70] [71] [(112, .bool true)] (by kernel_rfl) (by kernel_rfl) ?_
   refine L.store 0 [.bool true] [.bool true] (by kernel_rfl : lookAt _ _ _ _ = some ((Op.store 4 (Operand.tmp 2) (Operand.tmp 112)), none)) (by kernel_rfl) B614 (by kernel_rfl) (by kernel_rfl) (by kernel_rfl) (one_of_all (by kernel_rfl)) (by kernel_rfl) ?_
   intro w624 E625 hz626 B627
   have hE628 := hE611.and1 E625 (by omega)
   have := E625.size
   have hM629 := hM612.eff E625
   have B630 := B613.eff1 E625 (by omega)
   have B631 := B615.eff1 E625 (by omega)
   have B632 := B616.eff1 E625 (by omega)
   have B633 := B617.eff1 E625 (by omega)
   have B634 := B618.eff1 E625 (by omega)
   have B635 := B619.eff1 E625 (by omega)
   have R636 := R620.step same E625 (in1 (List.mem_append_right _ (List.mem_append_right _ (List.mem_append_right _ (List.mem_append_right _ (List.mem_append_right _ (List.mem_append_right _ (List.mem_append_right _ (List.mem_append_right _ (List.mem_append_right _ (List.mem_append_left _ (List.mem_singleton.2 rfl))))))))))))
   have DB637 := DB621.eff E625 (notin1 (by omega))
   have C638 := Kd.step (Kd.array 8 [] (Kd.slice Kd.str) rfl) C622 same E625 (in1 (List.mem_append_right _ (List.mem_append_right _ (List.mem_append_right _ (List.mem_append_right _ (List.mem_append_right _ (List.mem_append_right _ (List.mem_append_right _ (List.mem_append_right _ (List.mem_append_right _ (List.mem_append_left _ (List.mem_singleton.2 rfl))))))))))))
   have PS639 := PS623.step hM629 same (List.mem_append_left _ (List.mem_singleton.2 rfl)) (List.mem_append_right _ (List.mem_append_left _ (List.mem_singleton.2 rfl))) (List.mem_append_right _ (List.mem_append_right _ (List.mem_append_left _ (List.mem_singleton.2 rfl)))) E625 (notin1 (by omega)) (notin1 (by omega)) (notin1 (by omega)) (in1 (List.mem_append_right _ (List.mem_append_right _ (List.mem_append_right _ (List.mem_append_right _ (List.mem_append_right _ (List.mem_append_right _ (List.mem_append_right _ (List.mem_append_right _ (List.mem_append_right _ (List.mem_append_left _ (List.mem_singleton.2 rfl))))))))))))
   refine L.done ?_
   show S _ _ _ c5_n42 _ _ _ _
   refine S.ret (by kernel_rfl) ?_
   show Leave _ _ _ _ _ _ _ _
   refine Leave.mark (D := D254) (by intro h; cases h) DB637 ?_
   intro w640 E641 hs642
   have hE643 := hE628.and1 E641 (by omega)
   have := E641.size
   have hM644 := hM629.eff E641
   have B645 := B630.eff1 E641 (by omega)
   have B646 := B631.eff1 E641 (by omega)
   have B647 := B632.eff1 E641 (by omega)
   have B648 := B633.eff1 E641 (by omega)
   have B649 := B634.eff1 E641 (by omega)
   have B650 := B635.eff1 E641 (by omega)
   have R651 := R636.step same E641 (in1 (List.mem_append_right _ (List.mem_append_right _ (List.mem_append_right _ (List.mem_append_right _ (List.mem_append_left _ (List.mem_singleton.2 rfl)))))))
   have C652 := Kd.step (Kd.array 8 [] (Kd.slice Kd.str) rfl) C638 same E641 (in1 (List.mem_append_right _ (List.mem_append_right _ (List.mem_append_right _ (List.mem_append_right _ (List.mem_append_left _ (List.mem_singleton.2 rfl)))))))
   have PS653 := PS639.step hM644 same (List.mem_append_left _ (List.mem_singleton.2 rfl)) (List.mem_append_right _ (List.mem_append_left _ (List.mem_singleton.2 rfl))) (List.mem_append_right _ (List.mem_append_right _ (List.mem_append_left _ (List.mem_singleton.2 rfl)))) E641 (notin1 (by omega)) (notin1 (by omega)) (notin1 (by omega)) (in1 (List.mem_append_right _ (List.mem_append_right _ (List.mem_append_right _ (List.mem_append_right _ (List.mem_append_left _ (List.mem_singleton.2 rfl)))))))
   have B654 := B627.eff1 E641 (by omega)
   show Leave _ _ _ _ _ _ _ _
   refine Leave.ret1 (x := .cell 2 4) (.bool true) (by kernel_rfl) (.ofC 0 (by kernel_rfl) B654.cells (by kernel_rfl)) ?_
   refine ⟨_, rfl, hE643, ?_⟩
   rfl
  ·rintro e w1 h
   exact h.elim
end Go.Proofs.YtjleeadiadpiaaaGreatDoor
namespace Go.Proofs.YtjleeadiadpiaaaGreatDoor.PairsNil
open Go Go.Fx Go.RowKit Go.ChangeShapes Go.WideShapes
theorem contract (H : Type) (enc : TypeId × Value → H) (W : World) (base : Nat) (args : Array Value) (ds gs : List (DataW H)) (before : List MemPlace)
    (hval : ∀ (j : Nat) t v, Tryz.f5.params[j]? = some t → args[j]? = some v → Value.okWide Tryz.prog W .any base t v)
    (hW : DataW.Whole enc Tryz.prog Tryz.f5.params.toList Rows.pairsNilSpec.vars false W args.toList ds gs before)
    (hwt : (DataW.weightsEach Tryz.prog (Tryz.f5.params.toList ++ (OpenSpec.ofChange Rows.pairsNilSpec).bare.plain.varTypes Tryz.prog) (ds ++ gs)).all (· ≤ reachBytes) = true) (hL : laidMetH Tryz.prog Rows.pairsNilRow.laid W) :
    Calls Tryz.prog 5 args W fun e W' => ∃ v, e = .returned v ∧ Rows.pairsNilSpec.post enc Tryz.prog Tryz.f5 false true false false W args v W' := by
  have hW' := hW
  obtain ⟨p, q, hA0, hV, rfl, hfz, hnd⟩ := hW
  have hA : DataW.TrodAll enc Tryz.prog W 0 (fun _ => true) true Tryz.f5.params.toList args.toList ds p := hA0
  rw [Tryz.params5] at hA hval
  obtain ⟨v0, vs0, d0, ds0, p0, q0, hargs, rfl, rfl, ⟨fu, h0⟩, r0⟩ := trodAll_cons hA
  obtain ⟨rfl, rfl, rfl⟩ := trodAll_nil r0
  obtain rfl : args = #[v0] := by cases args; simp_all
  obtain ⟨rfl, rfl⟩ := trodVars_none hV
  obtain ⟨y, hy, hl⟩ := Reads.str Tryz.underlying9 enc W _ _ fu _ _ h0 (fun n hn => of_decide_eq_true (List.all_eq_true.1 hwt n (by
    rw [List.append_nil]
    exact mem_weightsEach (i := 0) (t := 9) (by rw [Tryz.params5]; rfl) rfl hn)))
  obtain ⟨s, rfl⟩ := okWide_string Tryz.underlying9 (hval 0 9 v0 rfl rfl)
  have hy' : Value.string s = sv y := by simpa [Value.cells] using hy
  rw [hy'] at hW' ⊢
  refine (nil_ok y W hl (tab_of rfl hL)).mono ?_
  rintro e W' ⟨v, rfl, E, rfl⟩
  exact ⟨_, rfl, post_true hW' laid_out (by rw [Tryz.params5]; simp; kernel_rfl) (by kernel_rfl) Tryz.underlying4 rfl rfl E⟩
theorem laid_met (os : Os) : laidMet Tryz.prog Rows.pairsNilRow.laid ((laidWorld os).forCall (fun _ _ => 0) ⟨#[], #[.string ⟨#[]⟩], []⟩).memory :=
  laidMet_of_run' 8 (by kernel_rfl) (by kernel_rfl)
theorem reads (os : Os) {H : Type} (enc : TypeId × Value → H) : ∃ places, DataW.whole enc Tryz.prog ((laidWorld os).forCall (fun _ _ => 0) ⟨#[], #[.string ⟨#[]⟩], []⟩).memory Tryz.f5.params.toList Rows.pairsNilSpec.vars false #[Value.string ⟨#[]⟩].toList 8 = some ([.lit (.string [])], [], places) :=
  ⟨[], by kernel_rfl⟩
theorem lifted (os : Os) (started : os.Started) (H : Type) (enc : TypeId × Value → H) (F : Stop.Interp) :
    ReturnsInHanded {} Tryz.checked os 5 .any ((OpenSpec.ofChange Rows.pairsNilSpec).preRow enc Tryz.prog Tryz.f5 Rows.pairsNilRow.domain false Rows.pairsNilRow.laid) (((OpenSpec.ofChange Rows.pairsNilSpec).at F).post enc Tryz.prog Tryz.f5 false true false false) := by
  obtain ⟨places, hx⟩ := reads os enc
  refine returnsInHanded_of_row (C := Tryz.checked) (s := OpenSpec.ofChange Rows.pairsNilSpec) own0 started (by kernel_rfl) Tryz.func5
    (witness_row_at (enc := enc) (C := Tryz.checked) false (laidWorld os) #[.string ⟨#[]⟩] rfl (by kernel_rfl) (by kernel_rfl) (by kernel_rfl)
      (OpenSpec.preRow_of_cond 8 hx (by kernel_rfl) (fun k hk => by cases hk) (by kernel_rfl) (laid_met os))) ?_
  intro W base args ds gs before hval hW _ _ hwt hL _ _
  exact contract H enc W base args ds gs before hval hW hwt hL
theorem said : Rows.PairsNilSaid :=
  OpenClaim.holds_of_cond 5 Tryz.f5 rfl rfl rfl rfl rfl rfl rfl ⟨rfl, rfl, rfl, rfl, rfl⟩ rfl rfl rfl rfl rfl (by kernel_rfl) Tryz.func5 (by kernel_rfl)
    (of_decide_eq_true (by kernel_rfl)) (by unfold Func.isWrapper; first | (rw [if_pos (by decide +kernel)]; kernel_rfl) | (rw [if_neg (by decide +kernel)]; exact ⟨rfl, rfl⟩))
    (fun os started H enc _ F => by rw [OpenClaim.pre_eq_preRow]; exact lifted os started H enc F)
theorem plain (f : FuncId) (fn : Func) (hf : Tryz.pinned.checked.prog.funcNamed "cardcase/cardcaselaw20.PairsNil" = some f) (hfn : Tryz.pinned.checked.prog.funcs[f]? = some fn) :
    true = Tryz.pinned.checked.prog.looks [] ∧ ∀ (j : Nat) t, fn.params[j]? = some t → Tryz.pinned.checked.prog.wantsStandIn t = false := by
  obtain rfl : f = 5 := Option.some.inj ((show Tryz.prog.funcNamed "cardcase/cardcaselaw20.PairsNil" = some 5 by kernel_rfl).symm.trans hf) |>.symm
  obtain rfl : fn = Tryz.f5 := (Option.some.inj (Tryz.func5.symm.trans hfn)).symm
  refine ⟨by kernel_rfl, fun j t ht => ?_⟩
  rw [Tryz.params5] at ht
  obtain rfl : t = 9 := by simpa using Array.mem_of_getElem? ht
  exact (show Tryz.prog.wantsStandIn 9 = false by kernel_rfl)
theorem card : Rows.PairsNilCardSaid :=
  Claim7.holds_tied_plain_at .later [] _ _ _ _ said (fun _ h => by cases h) (by kernel_rfl) (fun _ h => by cases h) pairsNil_row_tie rfl ⟨rfl, rfl⟩ (by kernel_rfl) rfl plain (by kernel_rfl)
end Go.Proofs.YtjleeadiadpiaaaGreatDoor.PairsNil
