import Derived.Test.YtjleeadiadpiaaaGreatDoorK5
set_option linter.unusedVariables false
set_option linter.unusedSimpArgs false
set_option maxRecDepth 10000
namespace Go.Proofs.YtjleeadiadpiaaaGreatDoor
open Go Go.Fx Go.RowKit
def textS (c : List (List Str)) : Str := if rightF c = true then textF c else []
def errR (c : List (List Str)) : Int := if rightF c = true then 0 else 2
def dnS (l : List Rd) : Str := if dnF l = true then dnT l l.length else []
def errD (l : List Rd) : Int := if dnF l = true then 0 else 2
def rowP (x : Pg) : Pr := ⟨[112] ++ x.href, x.uuid ++ [10] ++ textS x.shadow⟩
def rowI (y : Pm) : Pr := ⟨[105], Lib.join [y.href, y.uuid, dnS y.dn, textS y.shadow] [10]⟩
theorem text2_ok (cs : List Value) (c : List (List Str)) (w : World) (h : kCt.R [] w cs c) (hTab : TabP w) : Calls Tryz.prog 58 #[.agg (cs).toArray] w (RetW [] w fun v _ => v = .tuple #[sv (textS c), .int .i64 (errR c)]) := by
 refine (text_ok cs c w h hTab).mono ?_
 rintro e w' ⟨v, he, E, hv⟩
 refine ⟨v, he, E, hv.trans ?_⟩
 unfold textS errR
 split <;> rfl
theorem dntext2_ok (a : Option Addr) (cap : Nat) (l : List Rd) (w : World) (h : Sl kRd [] w a l) : Calls Tryz.prog 57 #[.slice a l.length cap] w (RetW [] w fun v _ => v = .tuple #[sv (dnS l), .int .i64 (errD l)]) := by
 refine (dntext_ok a cap l w h).mono ?_
 rintro e w' ⟨v, he, E, hv⟩
 refine ⟨v, he, E, hv.trans ?_⟩
 unfold dnS errD
 split <;> rfl
theorem lineN_len (s : Str) (h : s.length ≤ 200) : (lineN s).length ≤ 300 := by
 have := itoa_len (m := s.length) (by omega)
 simp only [lineN, lineS, List.length_append, List.length_cons, List.length_nil]; omega
theorem flat_len {α : Type} {f : α → Str} {m : Nat} : ∀ (l : List α), (∀ x ∈ l, (f x).length ≤ m) → (l.map f).flatten.length ≤ l.length * m := by
 intro l
 induction l with
 | nil => intro _; simp
 | cons x l ih =>
  intro h
  have h1 := h x List.mem_cons_self
  have h2 := ih fun y hy => h y (List.mem_cons_of_mem _ hy)
  simp only [List.map_cons, List.flatten_cons, List.length_append, List.length_cons, Nat.add_mul]; omega
theorem textS_len (c : List (List Str)) : (textS c).length ≤ 100000 := by
 unfold textS
 split
 ·rename_i h
  unfold textF textN
  refine Nat.le_trans (flat_len (m := 10000) _ fun f hf => ?_) (by simp)
  have hf8 : f < 8 := List.mem_range.1 hf
  have hv := right_vals h hf8
  simp only [valuesF, Bool.and_eq_true, decide_eq_true_eq] at hv
  have hm : mostF f ≤ 8 := by unfold mostF; split <;> omega
  have hs : ∀ s ∈ c.getD f [], s.length ≤ 200 := by
   intro s hs
   obtain ⟨i, hi, rfl⟩ := List.getElem_of_mem hs
   have := allI_get hv.2 hi
   simp only [valB, Bool.and_eq_true, lenIn, decide_eq_true_eq] at this
   have h2 := this.1.1.2
   rw [List.getD_eq_getElem?_getD, List.getElem?_eq_getElem hi] at h2
   exact h2
  have h1 := flat_len (f := lineN) (m := 300) (c.getD f []) fun s hx => lineN_len s (hs s hx)
  have h2 : (headS f (c.getD f [])).length ≤ 50 := by
   unfold headS
   split
   ·have := itoa_len (m := (c.getD f []).length) (by omega)
    have := names_len f
    simp only [lineS, List.length_append, List.length_cons, List.length_nil]; omega
   ·simp
  rw [fieldT, List.length_append]
  have : (c.getD f []).length * 300 ≤ 8 * 300 := Nat.mul_le_mul_right _ (by omega)
  omega
 ·simp
theorem dnS_len (l : List Rd) : (dnS l).length ≤ 100000 := by
 unfold dnS
 split
 ·rename_i h
  have h16 : l.length ≤ 16 := by simp only [dnF, Bool.and_eq_true, decide_eq_true_eq] at h; exact h.1
  unfold dnT
  refine Nat.le_trans (flat_len (m := 1000) _ fun j hj => ?_) (by rw [List.length_range]; omega)
  have hjl : j < l.length := List.mem_range.1 hj
  obtain ⟨h1, h2⟩ := dn_rd h (List.getElem?_eq_getElem hjl)
  have h3 := valT_len l[j].val l[j].val.length
  have e : l.getD j ⟨[], []⟩ = l[j] := by rw [List.getD_eq_getElem?_getD, List.getElem?_eq_getElem hjl]; rfl
  rw [e, oneT]
  split <;> simp only [List.length_append, List.length_cons, List.length_nil] <;> omega
 ·simp
theorem allF_len (l1 : List (Str × Pg)) : (allF l1).length = l1.length := by simp [allF]
theorem allF_small {l1 : List (Str × Pg)} (hs : ∀ q x, mget l1 q = some x → ∀ j, (x.shadow.getD j []).length ≤ 1048576) {x : Pg} (hx : x ∈ allF l1) : ∀ j, (x.shadow.getD j []).length ≤ 1048576 := by
 obtain ⟨q, _, rfl⟩ := List.mem_map.1 hx
 unfold cardF
 cases h : mget l1 q with
 | none => exact small0
 | some y => exact hs q y h
theorem rowP_snoc0 {L : List Pg} {k : Nat} {x : Pg} (hx : L[k]? = some x) : (L.take k).map rowP ++ [rowP x] = (L.take (k + 1)).map rowP := by
 obtain ⟨hk, rfl⟩ := List.getElem?_eq_some_iff.1 hx
 rw [List.take_succ_eq_append_getElem hk, List.map_append]; rfl
theorem rowP_snoc {L : List Pg} {o : List Pr} {k : Nat} {x : Pg} (hx : L[k]? = some x) : o ++ (L.take k).map rowP ++ [rowP x] = o ++ (L.take (k + 1)).map rowP := by
 obtain ⟨hk, rfl⟩ := List.getElem?_eq_some_iff.1 hx
 rw [List.take_succ_eq_append_getElem hk, List.map_append, List.append_assoc]; rfl
noncomputable def c31 : Code := bodyOf Tryz.f31
noncomputable def c31_0 : Code := kid 0 c31
noncomputable def o31_0 : Array Oper := regOps c31_0
noncomputable def c31_1 : Code := kid 1 c31
noncomputable def c31_1_0 : Code := kid 0 c31_1
noncomputable def o31_1_0 : Array Oper := regOps c31_1_0
noncomputable def c31_1_1 : Code := kid 1 c31_1
noncomputable def c31_1_1_0 : Code := kid 0 c31_1_1
noncomputable def c31_n6 : Code := kid 0 c31_1_1_0
noncomputable def o31_n6 : Array Oper := regOps c31_n6
noncomputable def c31_n7 : Code := kid 1 c31_1_1_0
noncomputable def c31_n8 : Code := kid 0 c31_n7
noncomputable def o31_n8 : Array Oper := regOps c31_n8
noncomputable def c31_n9 : Code := kid 1 c31_n7
noncomputable def c31_n10 : Code := kid 0 c31_n9
noncomputable def c31_n15 : Code := kid 1 c31_n9
noncomputable def c31_1_1_1 : Code := kid 1 c31_1_1
noncomputable def c31_n17 : Code := kid 0 c31_1_1_1
noncomputable def c31_n18 : Code := kid 0 c31_n17
noncomputable def o31_n18 : Array Oper := regOps c31_n18
noncomputable def c31_n19 : Code := kid 1 c31_n17
noncomputable def c31_n20 : Code := kid 0 c31_n19
noncomputable def c31_n21 : Code := kid 0 c31_n20
noncomputable def o31_n21 : Array Oper := regOps c31_n21
noncomputable def c31_n22 : Code := kid 1 c31_n20
noncomputable def c31_n23 : Code := kid 0 c31_n22
noncomputable def c31_n24 : Code := kid 0 c31_n23
noncomputable def o31_n24 : Array Oper := regOps c31_n24
noncomputable def c31_n25 : Code := kid 1 c31_n23
noncomputable def o31_n25 : Array Oper := regOps c31_n25
noncomputable def c31_n26 : Code := kid 1 c31_1_1_1
noncomputable def c31_n27 : Code := kid 0 c31_n26
noncomputable def o31_n27 : Array Oper := regOps c31_n27
noncomputable def c31_n28 : Code := kid 1 c31_n26
set_option maxHeartbeats 400000 in
theorem rows_none (M : List Nat) (pb b1 b2 : Nat) (l1 : List (Str × Pg)) (l2 : List (Str × Str)) (w : World) (hB : Blk w pb [.map (some b1), .map (some b2), .pointer none] 59) (hp1 : pb ≠ b1) (hp2 : pb ≠ b2) (hM : Mok M w) (Q1 : MapIs Key.str kPg true M w b1 l1) (Q2 : MapIs Key.str Kd.str false M w b2 l2) (hb1 : b1 ∈ M) (hb2 : b2 ∈ M) (hne : b1 ≠ b2) (hs : ∀ q x, mget l1 q = some x → ∀ j, (x.shadow.getD j []).length ≤ 1048576) (hl : l1.length ≤ 1000000) (hkeys : ∀ p ∈ l1, p.1.length < 4611686018427387904) (hxx : ∀ x ∈ allF l1, x.href.length ≤ 100 ∧ x.uuid.length ≤ 100) (hTab : TabP w) (hTM : 1 ∉ M) : Calls Tryz.prog 31 #[.pointer (some ⟨pb, 0, none⟩)] w (RetW [] w fun v w' => ∃ a cap, v = .slice a ((allF l1).map rowP).length cap ∧ Sl kPr M w' a ((allF l1).map rowP)) := by
 refine calls_of_S (n := 67) (c := c31) Tryz.func31 (by kernel_rfl) (by kernel_rfl) (Nat.le_of_ble_eq_true (by kernel_rfl)) ?_
 have := Q1.lt
 have := Q2.lt
 have := hB.lt
 have := hTab.lt
 have hal : (allF l1).length = l1.length := allF_len l1
 have hE0 : Eff [] w w := Eff.refl _ _
 refine S.seq (x := c31_0) (y := c31_1) (by kernel_rfl) ?_
 refine S.reg (ops := o31_0) (js := [0]) (by kernel_rfl) (by kernel_rfl) ?_
 refine L.runU [0] [] [(2, .slice none 0 0)] (by kernel_rfl) (by kernel_rfl) ?_
 refine L.done ?_
 show S _ _ _ c31_1 _ _ _ _
 refine S.seq (x := c31_1_0) (y := c31_1_1) (by kernel_rfl) ?_
 refine S.reg (ops := o31_1_0) (js := [0]) (by kernel_rfl) (by kernel_rfl) ?_
 refine L.alloc [.slice none 0 0] (by kernel_rfl : lookAt _ _ _ _ = some ((Op.alloc 72), some 3)) (by kernel_rfl) ?_
 intro b101 w102 hs103 hz104 E105 B106
 have hE107 := hE0.and0 E105
 have := E105.size
 have Q108 := Q1.step (nNew (fresh1 hs103) same) E105 (by simp) no0
 have Q109 := Q2.step (nNew (fresh1 hs103) same) E105 (by simp) no0
 have B110 := hB.eff0 E105
 have nm112 := ninN hTM hTab.lt (nNew (fresh1 hs103) same)
 have B111 := hTab.eff0 E105
 have hM113 : Mok ([b101] ++ M) w102 := hM.step E105 (nNew (flt1 (b := b101) (by omega)) same)
 refine L.done ?_
 show S _ _ _ c31_1_1 _ _ _ _
 refine S.seq (x := c31_1_1_0) (y := c31_1_1_1) (by kernel_rfl) ?_
 refine S.seq (x := c31_n6) (y := c31_n7) (by kernel_rfl) ?_
 refine S.reg (ops := o31_n6) (js := [0, 1, 2, 3, 4, 5, 6, 7]) (by kernel_rfl) (by kernel_rfl) ?_
 refine L.runU [0] [1, 2, 3, 4, 5, 6, 7] [(15, .pointer (some ⟨pb, 0, none⟩))] (by kernel_rfl) (by kernel_rfl) ?_
 refine L.call (f := 23) (by kernel_rfl : lookAt _ _ _ _ = some ((Op.call { callee := (Callee.value (Operand.func 23)), args := #[(Operand.tmp 15)], argTypes := #[25] }), some 16)) e23 (by kernel_rfl) (promised_none pb b1 _ _ B110) ?_
 rintro _ w115 E116 rfl
 have hE118 := hE107.and0 E116
 have := E116.size
 have Q119 := Q108.step same E116 (by simp) no0
 have Q120 := Q109.step same E116 (by simp) no0
 have B121 := B110.eff0 E116
 have B122 := B111.eff0 E116
 have B123 := B106.eff0 E116
 have hM124 := hM113.eff E116
 refine L.runU [2, 3, 4] [5, 6, 7] [(14, .tuple #[.agg #[sv [], sv [], .slice none 0 0, .slice none 0 0, .slice none 0 0, .slice none 0 0, .slice none 0 0, .slice none 0 0, .slice none 0 0, .slice none 0 0, .slice none 0 0], .bool false]), (17, .agg #[sv [], sv [], .slice none 0 0, .slice none 0 0, .slice none 0 0, .slice none 0 0, .slice none 0 0, .slice none 0 0, .slice none 0 0, .slice none 0 0, .slice none 0 0]), (18, .bool false)] (by kernel_rfl) (by kernel_rfl) ?_
 refine L.alloc [sv [], sv [], .slice none 0 0, .slice none 0 0, .slice none 0 0, .slice none 0 0, .slice none 0 0, .slice none 0 0, .slice none 0 0, .slice none 0 0, .slice none 0 0] (by kernel_rfl : lookAt _ _ _ _ = some ((Op.alloc 34), some 4)) (by kernel_rfl) ?_
 intro b125 w126 hs127 hz128 E129 B130
 have hE131 := hE118.and0 E129
 have := E129.size
 have Q132 := Q119.step (nNew (fresh1 hs127) (nKeep same)) E129 (by simp) no0
 have Q133 := Q120.step (nNew (fresh1 hs127) (nKeep same)) E129 (by simp) no0
 have B134 := B121.eff0 E129
 have nm136 := ninN nm112 B122.lt (nNew (fresh1 hs127) (nKeep same))
 have B135 := B122.eff0 E129
 have B137 := B123.eff0 E129
 have hM138 : Mok ([b125] ++ ([b101] ++ M)) w126 := hM124.step E129 (nNew (flt1 (b := b125) (by omega)) (nKeep same))
 refine L.store 0 [sv [], sv [], .slice none 0 0, .slice none 0 0, .slice none 0 0, .slice none 0 0, .slice none 0 0, .slice none 0 0, .slice none 0 0, .slice none 0 0, .slice none 0 0] [sv [], sv [], .slice none 0 0, .slice none 0 0, .slice none 0 0, .slice none 0 0, .slice none 0 0, .slice none 0 0, .slice none 0 0, .slice none 0 0, .slice none 0 0] (by kernel_rfl : lookAt _ _ _ _ = some ((Op.store 34 (Operand.tmp 4) (Operand.tmp 17)), none)) (by kernel_rfl) B130 (by kernel_rfl) (by kernel_rfl) (by kernel_rfl) (one_of_all (by kernel_rfl)) (by kernel_rfl) ?_
 intro w139 E140 hz141 B142
 have hE143 := hE131.and1 E140 (by omega)
 have := E140.size
 have Q144 := Q132.step same E140 (notin1 (by omega)) (in1 (List.mem_append_left _ (List.mem_singleton.2 rfl)))
 have Q145 := Q133.step same E140 (notin1 (by omega)) (in1 (List.mem_append_left _ (List.mem_singleton.2 rfl)))
 have B146 := B134.eff1 E140 (by omega)
 have B147 := B135.eff1 E140 (by omega)
 have B148 := B137.eff1 E140 (by omega)
 have hM149 := hM138.eff E140
 refine L.runU [7] [] [(5, .bool false)] (by kernel_rfl) (by kernel_rfl) ?_
 refine L.done ?_
 show S _ _ _ c31_n7 _ _ _ _
 refine S.seq (x := c31_n8) (y := c31_n9) (by kernel_rfl) ?_
 refine S.reg (ops := o31_n8) (js := [0]) (by kernel_rfl) (by kernel_rfl) ?_
 refine L.runU [0] [] [(19, .bool false)] (by kernel_rfl) (by kernel_rfl) ?_
 refine L.done ?_
 show S _ _ _ c31_n9 _ _ _ _
 refine S.condF (o := (Operand.tmp 19)) (x := c31_n10) (y := c31_n15) (by kernel_rfl) (by kernel_rfl) ?_
 refine S.skip (by kernel_rfl) ?_
 show S _ _ _ c31_1_1_1 _ _ _ _
 refine S.seq (x := c31_n17) (y := c31_n26) (by kernel_rfl) ?_
 refine S.seq (x := c31_n18) (y := c31_n19) (by kernel_rfl) ?_
 refine S.reg (ops := o31_n18) (js := [0, 1]) (by kernel_rfl) (by kernel_rfl) ?_
 refine L.runU [0] [1] [(44, .pointer (some ⟨pb, 0, none⟩))] (by kernel_rfl) (by kernel_rfl) ?_
 refine L.call (f := 24) (by kernel_rfl : lookAt _ _ _ _ = some ((Op.call { callee := (Callee.value (Operand.func 24)), args := #[(Operand.tmp 44)], argTypes := #[25] }), some 45)) e24 (by kernel_rfl) (all24_ok ([b125] ++ ([b101] ++ M)) pb b1 b2 l1 l2 (.pointer none) _ B146 hp1 hp2 hM149 Q144 Q145 (by simp [*]) (by simp [*]) hne hs hl hkeys) ?_
 rintro _ w158 E159 ⟨b150, a151, cap152, rfl, B153, R154, hb155⟩
 have nm156 := not_mem_of_ge (b := b150) hM149 hb155
 have hE161 := hE143.and0 E159
 have := E159.size
 have Q162 := Q144.step same E159 (by simp) no0
 have Q163 := Q145.step same E159 (by simp) no0
 have B164 := B146.eff0 E159
 have B165 := B147.eff0 E159
 have B166 := B148.eff0 E159
 have B167 := B142.eff0 E159
 have hM168 := hM149.eff E159
 have := B153.lt
 refine L.done ?_
 show S _ _ _ c31_n19 _ _ _ _
 refine S.block (id := 0) (x := c31_n20) (by kernel_rfl) ?_
 have O173 : Own kPr 77 w.heap.size ([b125] ++ ([b101] ++ M)) w158 (.slice none 0 0) [] := Own.nil _ _ _ _ _
 have R174 : MapIs Key.str kPg true (ob (.slice none 0 0) ++ ([b125] ++ ([b101] ++ M))) w158 b1 l1 := Q162
 have R175 : MapIs Key.str Kd.str false (ob (.slice none 0 0) ++ ([b125] ++ ([b101] ++ M))) w158 b2 l2 := Q163
 have nm176 : 1 ∉ ob (.slice none 0 0) ++ ([b125] ++ ([b101] ++ M)) := nm136
 have nm177 : b150 ∉ ob (.slice none 0 0) ++ ([b125] ++ ([b101] ++ M)) := nm156
 have R178 : Sl kPg (ob (.slice none 0 0) ++ ([b125] ++ ([b101] ++ M))) w158 a151 (allF l1) := R154
 have hM179 : Mok (ob (.slice none 0 0) ++ ([b125] ++ ([b101] ++ M))) w158 := hM168
 have := R174.lt
 have := R175.lt
 have := B164.lt
 have := B165.lt
 have := B166.lt
 have := B167.lt
 have := B153.lt
 obtain ⟨D169, hD171⟩ : ∃ D, w158.heap.size = D := ⟨_, rfl⟩
 obtain ⟨l170, hl172⟩ : ∃ l, D169 + 1 = l := ⟨_, rfl⟩
 refine S.range (α := Nat × Pg) (g := (Operand.tmp 45)) (ps := #[46, 47]) (assign := c31_n21) (body := c31_n22) (gf := 49) (lb := #[.pointer (some ⟨b150, 0, none⟩)]) false D169 l170 (encPg a151 (allF l1)) (nxL (allF l1)) (finL (allF l1)) (fun N m pre w' => ∃ (a180 : Option Addr) (cap181 : Nat) (out : List Pr), m ≤ w'.heap.size ∧ (∀ b, b ∈ [l170] ++ ([D169] ++ (ob (.slice a180 out.length cap181) ++ ([b125] ++ ([b101] ++ M)))) → b < m) ∧ l170 < w'.heap.size ∧ (out =  ((allF l1).take pre.length).map rowP) ∧ (out.length ≤ pre.length + 1) ∧ MapIs Key.str kPg true ([l170] ++ ([D169] ++ (ob (.slice a180 out.length cap181) ++ ([b125] ++ ([b101] ++ M))))) w' b1 l1 ∧ MapIs Key.str Kd.str false ([l170] ++ ([D169] ++ (ob (.slice a180 out.length cap181) ++ ([b125] ++ ([b101] ++ M))))) w' b2 l2 ∧ Blk w' pb ([.map (some b1), .map (some b2), .pointer none]) 59 ∧ TabP w' ∧ 1 ∉ [l170] ++ ([D169] ++ (ob (.slice a180 out.length cap181) ++ ([b125] ++ ([b101] ++ M)))) ∧ Blk w' b101 ([.slice a180 out.length cap181]) 72 ∧ Blk w' b125 ([sv [], sv [], .slice none 0 0, .slice none 0 0, .slice none 0 0, .slice none 0 0, .slice none 0 0, .slice none 0 0, .slice none 0 0, .slice none 0 0, .slice none 0 0]) 34 ∧ Blk w' b150 ([.slice a151 ((allF l1).length) cap152]) 27 ∧ b150 ∉ [l170] ++ ([D169] ++ (ob (.slice a180 out.length cap181) ++ ([b125] ++ ([b101] ++ M)))) ∧ Sl kPg ([l170] ++ ([D169] ++ (ob (.slice a180 out.length cap181) ++ ([b125] ++ ([b101] ++ M))))) w' a151 (allF l1) ∧ Own kPr 77 w.heap.size ([l170] ++ ([D169] ++ ([b125] ++ ([b101] ++ M)))) w' (.slice a180 out.length cap181) out ∧ Eff [] w w' ∧ True) (fun e w' => False) (by kernel_rfl) (by kernel_rfl) e49 (by kernel_rfl) hD171 hl172 ?_ ?_ ?_ nofun nofun ?_ ?_ ?_ ?_ ?_
 ·intro w182 E183 hs184
  have hE185 := hE161.and0 E183
  have := E183.size
  have Q186 := R174.step (nNew (fresh1' (b := l170) (by omega)) (nNew (fresh1' (b := D169) (by omega)) (nKeep (nKeep (nKeep same))))) E183 (by simp) no0
  have Q187 := R175.step (nNew (fresh1' (b := l170) (by omega)) (nNew (fresh1' (b := D169) (by omega)) (nKeep (nKeep (nKeep same))))) E183 (by simp) no0
  have B188 := B164.eff0 E183
  have nm190 := ninN nm176 B165.lt (nNew (fresh1' (b := l170) (by omega)) (nNew (fresh1' (b := D169) (by omega)) (nKeep (nKeep (nKeep same)))))
  have B189 := B165.eff0 E183
  have B191 := B166.eff0 E183
  have B192 := B167.eff0 E183
  have nm194 := ninN nm177 B153.lt (nNew (fresh1' (b := l170) (by omega)) (nNew (fresh1' (b := D169) (by omega)) (nKeep (nKeep (nKeep same)))))
  have B193 := B153.eff0 E183
  have R195 := R178.step (nNew (fresh1' (b := l170) (by omega)) (nNew (fresh1' (b := D169) (by omega)) (nKeep (nKeep (nKeep same))))) E183 no0
  have O196 := O173.step (nNew (fresh1' (b := l170) (by omega)) (nNew (fresh1' (b := D169) (by omega)) (nKeep (nKeep same)))) E183 no0
  have hM197 : Mok ([l170] ++ ([D169] ++ (ob (.slice none 0 0) ++ ([b125] ++ ([b101] ++ M))))) w182 := hM179.step E183 (nNew (flt1 (b := l170) (by omega)) (nNew (flt1 (b := D169) (by omega)) (nKeep (nKeep (nKeep same)))))
  exact ⟨none, 0, [], (Nat.le_refl _), hM197, (by omega), (by rfl), (by exact Nat.zero_le _), Q186, Q187, B188, B189, nm190, B191, B192, B193, nm194, R195, O196, hE185, trivial⟩
 ·rintro N204 m203 pre w198 w199 ⟨a180, cap181, out, hm205, hb206, hlt207, hout, hol, F208, F209, F210, F211, nm212, F213, F214, F215, nm216, F217, O218, hE219, -⟩ E200 hs201 hlt202
  have hE220 := hE219.and1 E200 (by omega)
  have := E200.size
  have Q221 := F208.step same E200 (notin1 (by omega)) (in1 (List.mem_append_left _ (List.mem_singleton.2 rfl)))
  have Q222 := F209.step same E200 (notin1 (by omega)) (in1 (List.mem_append_left _ (List.mem_singleton.2 rfl)))
  have B223 := F210.eff1 E200 (by omega)
  have B224 := F211.eff1 E200 (by omega)
  have B225 := F213.eff1 E200 (by omega)
  have B226 := F214.eff1 E200 (by omega)
  have B227 := F215.eff1 E200 (by omega)
  have R228 := F217.step same E200 (in1 (List.mem_append_left _ (List.mem_singleton.2 rfl)))
  have O229 := O218.step same E200 (in1 (List.mem_append_left _ (List.mem_singleton.2 rfl)))
  have hM230 := (bnd_mok hb206 hm205).eff E200
  exact ⟨a180, cap181, out, (Nat.le_trans hm205 E200.size), hb206, (Nat.lt_of_lt_of_le hlt207 E200.size), (by exact hout), (by exact hol), Q221, Q222, B223, B224, nm212, B225, B226, B227, nm216, R228, O229, hE220, trivial⟩
 ·rintro N237 m236 pre w231 w232 ⟨a180, cap181, out, hm238, hb239, hlt240, hout, hol, F241, F242, F243, F244, nm245, F246, F247, F248, nm249, F250, O251, hE252, -⟩ E233
  have hE253 := hE252.and0 E233
  have := E233.size
  have Q254 := F241.step same E233 (by simp) no0
  have Q255 := F242.step same E233 (by simp) no0
  have B256 := F243.eff0 E233
  have B257 := F244.eff0 E233
  have B258 := F246.eff0 E233
  have B259 := F247.eff0 E233
  have B260 := F248.eff0 E233
  have R261 := F250.step same E233 no0
  have O262 := O251.step same E233 no0
  have hM263 := (bnd_mok hb239 hm238).eff E233
  exact ⟨a180, cap181, out, (Nat.le_trans hm238 E233.size), hb239, (Nat.lt_of_lt_of_le hlt240 E233.size), (by exact hout), (by exact hol), Q254, Q255, B256, B257, nm245, B258, B259, B260, nm249, R261, O262, hE253, trivial⟩
 ·rintro e w1 w2 h
  exact h.elim
 ·intro w269 J' hs270 E271 hJ272 hst273 _ _
  refine iter49 b150 a151 cap152 (allF l1) J' _ (fun N m pre w h => ?_) hst273 (fun x hx => allF_small hs hx)
  obtain ⟨a180, cap181, out, hm274, hb275, hlt276, hout, hol, F277, F278, F279, F280, nm281, F282, F283, F284, nm285, F286, O287, hE288, -⟩ := hJ272 N m pre w h
  exact ⟨F284, F286.wk0⟩
 ·rintro N292 m291 pre x args w289 ⟨a180, cap181, out, hm293, hb294, hlt295, hout, hol, F296, F297, F298, F299, nm300, F301, F302, F303, nm304, F305, O306, hE307, -⟩ hx he hlt290
  have hM308 : Mok ([l170] ++ ([D169] ++ (ob (.slice a180 out.length cap181) ++ ([b125] ++ ([b101] ++ M))))) w289 := (bnd_mok hb294 hm293)
  obtain ⟨_, x311⟩ := x
  obtain ⟨rfl, hx313, hlt314, hq315⟩ := hx
  obtain ⟨cs309, rfl, hall310⟩ := he
  have R312 : kPg.R ([l170] ++ ([D169] ++ (ob (.slice a180 out.length cap181) ++ ([b125] ++ ([b101] ++ M))))) w289 cs309 x311 := hall310 _ hb294 F305
  have := F305.1
  replace hx313 : (allF l1)[pre.length]? = some x311 := hx313
  obtain ⟨_, _, rfl, ⟨rfl, hl316⟩, ⟨_, _, rfl, ⟨rfl, hl317⟩, ⟨v318, v319, v320, v321, v322, v323, v324, v325, rfl, C326⟩⟩⟩ := R312
  refine ⟨rfl, ?_⟩
  have hC327 := Eff.refl [] w289
  obtain ⟨hq1, hq2⟩ := hxx _ (List.mem_of_getElem? hx313)
  show S _ _ _ c31_n21 _ _ _ _
  refine S.reg (ops := o31_n21) (js := [0, 1]) (by kernel_rfl) (by kernel_rfl) ?_
  refine L.alloc [sv [], sv [], .slice none 0 0, .slice none 0 0, .slice none 0 0, .slice none 0 0, .slice none 0 0, .slice none 0 0, .slice none 0 0, .slice none 0 0] (by kernel_rfl : lookAt _ _ _ _ = some ((Op.alloc 40), some 11)) (by kernel_rfl) ?_
  intro b328 w329 hs330 hz331 E332 B333
  have hE334 := hE307.and0 E332
  have := E332.size
  have hC335 := hC327.and0 E332
  have Q336 := F296.step (nNew (fresh1 hs330) (nKeep (nKeep (nKeep (nKeep (nKeep same)))))) E332 (by simp) no0
  have Q337 := F297.step (nNew (fresh1 hs330) (nKeep (nKeep (nKeep (nKeep (nKeep same)))))) E332 (by simp) no0
  have B338 := F298.eff0 E332
  have nm340 := ninN nm300 F299.lt (nNew (fresh1 hs330) (nKeep (nKeep (nKeep (nKeep (nKeep same))))))
  have B339 := F299.eff0 E332
  have B341 := F301.eff0 E332
  have B342 := F302.eff0 E332
  have nm344 := ninN nm304 F303.lt (nNew (fresh1 hs330) (nKeep (nKeep (nKeep (nKeep (nKeep same))))))
  have B343 := F303.eff0 E332
  have R345 := F305.step (nNew (fresh1 hs330) (nKeep (nKeep (nKeep (nKeep (nKeep same)))))) E332 no0
  have O346 := O306.step (nNew (fresh1 hs330) (nKeep (nKeep (nKeep (nKeep same))))) E332 no0
  have C347 := Kd.step (Kd.array 8 [] (Kd.slice Kd.str) rfl) C326 (nNew (fresh1 hs330) (nKeep (nKeep (nKeep (nKeep (nKeep same)))))) E332 no0
  have hM348 : Mok ([b328] ++ ([l170] ++ ([D169] ++ (ob (.slice a180 out.length cap181) ++ ([b125] ++ ([b101] ++ M)))))) w329 := hM308.step E332 (nNew (flt1 (b := b328) (by omega)) (nKeep (nKeep (nKeep (nKeep (nKeep same))))))
  refine L.store 0 [sv x311.href, sv x311.uuid, v318, v319, v320, v321, v322, v323, v324, v325] [sv x311.href, sv x311.uuid, v318, v319, v320, v321, v322, v323, v324, v325] (by kernel_rfl : lookAt _ _ _ _ = some ((Op.store 40 (Operand.tmp 11) (Operand.tmp 47)), none)) (by kernel_rfl) B333 (by kernel_rfl) (by kernel_rfl) (by kernel_rfl) (ones_app (a := [sv x311.href, sv x311.uuid]) (b := [v318, v319, v320, v321, v322, v323, v324, v325]) (one_of_all (by kernel_rfl)) (Kd.one (Kd.array 8 [] (Kd.slice Kd.str) rfl) C347)) (by kernel_rfl) ?_
  intro w349 E350 hz351 B352
  have hE353 := hE334.and1 E350 (by omega)
  have := E350.size
  have hC354 := hC335.and1 E350 (by omega)
  have Q355 := Q336.step same E350 (notin1 (by omega)) (in1 (List.mem_append_left _ (List.mem_singleton.2 rfl)))
  have Q356 := Q337.step same E350 (notin1 (by omega)) (in1 (List.mem_append_left _ (List.mem_singleton.2 rfl)))
  have B357 := B338.eff1 E350 (by omega)
  have B358 := B339.eff1 E350 (by omega)
  have B359 := B341.eff1 E350 (by omega)
  have B360 := B342.eff1 E350 (by omega)
  have B361 := B343.eff1 E350 (by omega)
  have R362 := R345.step same E350 (in1 (List.mem_append_left _ (List.mem_singleton.2 rfl)))
  have O363 := O346.step same E350 (in1 (List.mem_append_left _ (List.mem_singleton.2 rfl)))
  have C364 := Kd.step (Kd.array 8 [] (Kd.slice Kd.str) rfl) C347 same E350 (in1 (List.mem_append_left _ (List.mem_singleton.2 rfl)))
  have hM365 := hM348.eff E350
  refine L.done ?_
  refine ⟨hC354, ?_⟩
  intro w366 E367 hs368
  have hE369 := hE353.and1 E367 (by omega)
  have := E367.size
  have Q370 := Q355.step same E367 (notin1 (by omega)) (in1 (List.mem_append_right _ (List.mem_append_left _ (List.mem_singleton.2 rfl))))
  have Q371 := Q356.step same E367 (notin1 (by omega)) (in1 (List.mem_append_right _ (List.mem_append_left _ (List.mem_singleton.2 rfl))))
  have B372 := B357.eff1 E367 (by omega)
  have B373 := B358.eff1 E367 (by omega)
  have B374 := B359.eff1 E367 (by omega)
  have B375 := B360.eff1 E367 (by omega)
  have B376 := B361.eff1 E367 (by omega)
  have R377 := R362.step same E367 (in1 (List.mem_append_right _ (List.mem_append_left _ (List.mem_singleton.2 rfl))))
  have O378 := O363.step same E367 (in1 (List.mem_append_right _ (List.mem_append_left _ (List.mem_singleton.2 rfl))))
  have C379 := Kd.step (Kd.array 8 [] (Kd.slice Kd.str) rfl) C364 same E367 (in1 (List.mem_append_right _ (List.mem_append_left _ (List.mem_singleton.2 rfl))))
  have B380 := B352.eff1 E367 (by omega)
  have hM381 := hM365.eff E367
  have hC382 := Eff.refl ([b328] ++ (ob (.slice a180 out.length cap181) ++ ([b125] ++ ([b101] ++ [b1, b2, pb])))) w366
  have mm383 : ∀ x, x ∈ ob (.slice a180 out.length cap181) → x ∈ ([b328] ++ (ob (.slice a180 out.length cap181) ++ ([b125] ++ ([b101] ++ [b1, b2, pb])))) ∨ w366.heap.size ≤ x := fun x hx => .inl (by simp [hx])
  show S _ _ _ c31_n22 _ _ _ _
  refine S.block (id := 1) (x := c31_n23) (by kernel_rfl) ?_
  refine S.seq (x := c31_n24) (y := c31_n25) (by kernel_rfl) ?_
  refine S.reg (ops := o31_n24) (js := [0, 1, 2, 3, 4, 5, 6, 7]) (by kernel_rfl) (by kernel_rfl) ?_
  refine L.runU [0] [1, 2, 3, 4, 5, 6, 7] [(49, .pointer (some ⟨b328, 2, none⟩))] (by kernel_rfl) (by kernel_rfl) ?_
  refine L.val (.agg #[v318, v319, v320, v321, v322, v323, v324, v325]) (by kernel_rfl : lookAt _ _ _ _ = some ((Op.load 32 (Operand.tmp 49)), some 50)) (by intro c e; cases e) (rx_load 2 (.agg #[v318, v319, v320, v321, v322, v323, v324, v325]) (B380.cells) (by kernel_rfl) (by kernel_rfl)) ?_
  refine L.call (f := 58) (by kernel_rfl : lookAt _ _ _ _ = some ((Op.call { callee := (Callee.value (Operand.func 58)), args := #[(Operand.tmp 50)], argTypes := #[32] }), some 51)) e58 (by kernel_rfl) (text2_ok [v318, v319, v320, v321, v322, v323, v324, v325] x311.shadow _ (Kd.wk0 kCt ⟨_, _, _, _, _, _, _, _, rfl, C379⟩) B373) ?_
  rintro _ w385 E386 rfl
  have hE388 := hE369.and0 E386
  have := E386.size
  have hC389 := hC382.and0 E386
  have Q390 := Q370.step same E386 (by simp) no0
  have Q391 := Q371.step same E386 (by simp) no0
  have B392 := B372.eff0 E386
  have B393 := B373.eff0 E386
  have B394 := B374.eff0 E386
  have B395 := B375.eff0 E386
  have B396 := B376.eff0 E386
  have R397 := R377.step same E386 no0
  have O398 := O378.step same E386 no0
  have C399 := Kd.step (Kd.array 8 [] (Kd.slice Kd.str) rfl) C379 same E386 no0
  have B400 := B380.eff0 E386
  have hM401 := hM381.eff E386
  have := textS_len x311.shadow
  refine L.runU [3, 4, 5, 6, 7] [] [(48, .tuple #[sv (textS x311.shadow), .int .i64 (errR x311.shadow)]), (52, sv (textS x311.shadow)), (53, .int .i64 (errR x311.shadow)), (12, sv (textS x311.shadow)), (13, .int .i64 (errR x311.shadow))] (by kernel_rfl) (by kernel_rfl) ?_
  refine L.done ?_
  show S _ _ _ c31_n25 _ _ _ _
  refine S.reg (ops := o31_n25) (js := [0, 1, 2, 3, 4, 5, 6, 7, 8, 9, 10, 11, 12]) (by kernel_rfl) (by kernel_rfl) ?_
  refine L.val (.slice a180 out.length cap181) (by kernel_rfl : lookAt _ _ _ _ = some ((Op.load 72 (Operand.tmp 3)), some 54)) (by intro c e; cases e) (rx_load 0 (.slice a180 out.length cap181) (B394.cells) (by kernel_rfl) (by kernel_rfl)) ?_
  refine L.runU [1] [2, 3, 4, 5, 6, 7, 8, 9, 10, 11, 12] [(55, .pointer (some ⟨b328, 0, none⟩))] (by kernel_rfl) (by kernel_rfl) ?_
  refine L.val (sv x311.href) (by kernel_rfl : lookAt _ _ _ _ = some ((Op.load 9 (Operand.tmp 55)), some 56)) (by intro c e; cases e) (rx_load 0 (sv x311.href) (B400.cells) (by kernel_rfl) (by kernel_rfl)) ?_
  refine L.val (sv ([112] ++ x311.href)) (by kernel_rfl : lookAt _ _ _ _ = some ((Op.binOp BinOp.add 9 (Operand.const (Value.string { data := #[112] })) (Operand.tmp 56) 9), some 57)) (by intro c e; cases e) (rx_strAdd [112] x311.href (by kernel_rfl) (by kernel_rfl) (by (simp only [List.length_cons, List.length_nil, List.length_append, List.length_take, List.length_drop, List.length_map, List.length_replicate] <;> omega))) ?_
  refine L.runU [4] [5, 6, 7, 8, 9, 10, 11, 12] [(58, .pointer (some ⟨b328, 1, none⟩))] (by kernel_rfl) (by kernel_rfl) ?_
  refine L.val (sv x311.uuid) (by kernel_rfl : lookAt _ _ _ _ = some ((Op.load 9 (Operand.tmp 58)), some 59)) (by intro c e; cases e) (rx_load 1 (sv x311.uuid) (B400.cells) (by kernel_rfl) (by kernel_rfl)) ?_
  refine L.val (sv (x311.uuid ++ [10])) (by kernel_rfl : lookAt _ _ _ _ = some ((Op.binOp BinOp.add 9 (Operand.tmp 59) (Operand.const (Value.string { data := #[10] })) 9), some 60)) (by intro c e; cases e) (rx_strAdd x311.uuid [10] (by kernel_rfl) (by kernel_rfl) (by (simp only [List.length_cons, List.length_nil, List.length_append, List.length_take, List.length_drop, List.length_map, List.length_replicate] <;> omega))) ?_
  refine L.runU [7] [8, 9, 10, 11, 12] [(61, sv (textS x311.shadow))] (by kernel_rfl) (by kernel_rfl) ?_
  refine L.val (sv ((x311.uuid ++ [10]) ++ (textS x311.shadow))) (by kernel_rfl : lookAt _ _ _ _ = some ((Op.binOp BinOp.add 9 (Operand.tmp 60) (Operand.tmp 61) 9), some 62)) (by intro c e; cases e) (rx_strAdd (x311.uuid ++ [10]) (textS x311.shadow) (by kernel_rfl) (by kernel_rfl) (by (simp only [List.length_cons, List.length_nil, List.length_append, List.length_take, List.length_drop, List.length_map, List.length_replicate] <;> omega))) ?_
  refine L.runU [9] [10, 11, 12] [(63, .agg #[sv ([112] ++ x311.href), sv ((x311.uuid ++ [10]) ++ (textS x311.shadow))])] (by kernel_rfl) (by kernel_rfl) ?_
  refine L.newRow (fun b => .slice (some ⟨b, 0, none⟩) 1 1) [sv ([112] ++ x311.href), sv ((x311.uuid ++ [10]) ++ (textS x311.shadow))] 77 (by kernel_rfl : lookAt _ _ _ _ = some ((Op.buildSlice 72 1 #[(0, (Operand.tmp 63))]), some 64)) (by intro c e; cases e) (fun w => by kernel_rfl) ?_
  intro b402 w403 hs404 hz405 E406 B407
  have nm408 := not_mem_of_ge (b := b402) hM401 (by omega)
  have hE409 := hE388.and0 E406
  have := E406.size
  have hC410 := hC389.and0 E406
  have Q411 := Q390.step same E406 (by simp) no0
  have Q412 := Q391.step same E406 (by simp) no0
  have B413 := B392.eff0 E406
  have B414 := B393.eff0 E406
  have B415 := B394.eff0 E406
  have B416 := B395.eff0 E406
  have B417 := B396.eff0 E406
  have R418 := R397.step same E406 no0
  have O419 := O398.step same E406 no0
  have C420 := Kd.step (Kd.array 8 [] (Kd.slice Kd.str) rfl) C399 same E406 no0
  have B421 := B400.eff0 E406
  have hM422 := hM401.eff E406
  refine L.append (K := kPr) (e := 77) (base := w.heap.size) (bytes := 32) (M := [b328] ++ ([l170] ++ ([D169] ++ ([b125] ++ ([b101] ++ M))))) (v := .slice a180 out.length cap181) (xs := out) (ys := [(⟨[112] ++ x311.href, (x311.uuid ++ [10]) ++ (textS x311.shadow)⟩ : Pr)]) (a := some ⟨b402, 0, none⟩) (cap := 1) (by kernel_rfl : lookAt _ _ _ _ = some ((Op.call { callee := (Callee.builtin Builtin.append), args := #[(Operand.tmp 54), (Operand.tmp 64)], argTypes := #[72, 72] }), some 65)) (by kernel_rfl) (by kernel_rfl) (by kernel_rfl) (by kernel_rfl) O419 (Sl.one (K := kPr) (x := ((⟨[112] ++ x311.href, (x311.uuid ++ [10]) ++ (textS x311.shadow)⟩ : Pr))) B407 (fun h => nm408 ((sPull (sPull (sPull sSame))) _ h)) (Kd.sub kPr (M := [b328] ++ ([l170] ++ ([D169] ++ (ob (.slice a180 out.length cap181) ++ ([b125] ++ ([b101] ++ M)))))) (w := w403) (cs := [sv ([112] ++ x311.href), sv ((x311.uuid ++ [10]) ++ (textS x311.shadow))]) (x := ((⟨[112] ++ x311.href, (x311.uuid ++ [10]) ++ (textS x311.shadow)⟩ : Pr))) ⟨[sv ([112] ++ x311.href)], [sv ((x311.uuid ++ [10]) ++ (textS x311.shadow))], rfl, ⟨rfl, by (simp only [List.length_cons, List.length_nil, List.length_append, List.length_take, List.length_drop, List.length_map, List.length_replicate] <;> omega)⟩, ⟨rfl, by (simp only [List.length_cons, List.length_nil, List.length_append, List.length_take, List.length_drop, List.length_map, List.length_replicate] <;> omega)⟩⟩ (sPull (sPull (sPull sSame))))) (hM422.sub (sKeep (sKeep (sKeep (sDrop sSame))))) (by (simp only [List.length_cons, List.length_nil, List.length_append, List.length_take, List.length_drop, List.length_map, List.length_replicate] <;> omega)) (by omega) hE409.size ?_
  intro v423 w424 O425 E426 hat427
  obtain ⟨a428, cap429, rfl⟩ := O425.slice
  have hat430 := hatN hat427
  have hE431 := hE409.andMem E426 (memOwn O419 (Nat.le_refl _))
  have := E426.size
  have hC432 := hC410.andMem E426 mm383
  have mm433 := memN (base := w366.heap.size) mm383 hat430 (by omega)
  have Q434 := Q411.step (nKeep (nKeep (nKeep (nTurn hat430 (nKeep (nKeep same)))))) E426 (fun h => absurd (O419.lt _ h).1 (by omega)) (fun _ h => List.mem_append_right _ (List.mem_append_right _ (List.mem_append_right _ (List.mem_append_left _ (h)))))
  have Q435 := Q412.step (nKeep (nKeep (nKeep (nTurn hat430 (nKeep (nKeep same)))))) E426 (fun h => absurd (O419.lt _ h).1 (by omega)) (fun _ h => List.mem_append_right _ (List.mem_append_right _ (List.mem_append_right _ (List.mem_append_left _ (h)))))
  have B436 := B413.eff E426 (fun h => absurd (O419.lt _ h).1 (by omega))
  have nm438 := ninN nm340 B414.lt (nKeep (nKeep (nKeep (nTurn hat430 (nKeep (nKeep same))))))
  have B437 := B414.eff E426 (fun h => nm340 (List.mem_append_right _ (List.mem_append_right _ (List.mem_append_right _ (List.mem_append_left _ (h))))))
  have B439 := B415.eff E426 (O419.apart (List.mem_append_right _ (List.mem_append_right _ (List.mem_append_right _ (List.mem_append_right _ (List.mem_append_left _ (List.mem_singleton.2 rfl)))))))
  have B440 := B416.eff E426 (O419.apart (List.mem_append_right _ (List.mem_append_right _ (List.mem_append_right _ (List.mem_append_left _ (List.mem_singleton.2 rfl))))))
  have nm442 := ninN nm344 B417.lt (nKeep (nKeep (nKeep (nTurn hat430 (nKeep (nKeep same))))))
  have B441 := B417.eff E426 (fun h => nm344 (List.mem_append_right _ (List.mem_append_right _ (List.mem_append_right _ (List.mem_append_left _ (h))))))
  have R443 := R418.step (nKeep (nKeep (nKeep (nTurn hat430 (nKeep (nKeep same)))))) E426 (fun _ h => List.mem_append_right _ (List.mem_append_right _ (List.mem_append_right _ (List.mem_append_left _ (h)))))
  have C444 := Kd.step (Kd.array 8 [] (Kd.slice Kd.str) rfl) C420 (nKeep (nKeep (nKeep (nTurn hat430 (nKeep (nKeep same)))))) E426 (fun _ h => List.mem_append_right _ (List.mem_append_right _ (List.mem_append_right _ (List.mem_append_left _ (h)))))
  have B445 := B421.eff E426 (O419.apart (List.mem_append_left _ (List.mem_singleton.2 rfl)))
  have nm447 := ninN nm408 B407.lt (nKeep (nKeep (nKeep (nTurn hat430 (nKeep (nKeep same))))))
  have B446 := B407.eff E426 (fun h => nm408 (List.mem_append_right _ (List.mem_append_right _ (List.mem_append_right _ (List.mem_append_left _ (h))))))
  have hM448 : Mok ([b328] ++ ([l170] ++ ([D169] ++ (ob (.slice a428 ((out ++ [(⟨[112] ++ x311.href, (x311.uuid ++ [10]) ++ (textS x311.shadow)⟩ : Pr)]).length) cap429) ++ ([b125] ++ ([b101] ++ M)))))) w424 := hM422.step E426 (nKeep (nKeep (nKeep (nTurn (fun b hb => .inr ((fun b hb => (O425.lt b hb).2) b hb)) (nKeep (nKeep same))))))
  refine L.store 0 [.slice a428 ((out ++ [(⟨[112] ++ x311.href, (x311.uuid ++ [10]) ++ (textS x311.shadow)⟩ : Pr)]).length) cap429] [.slice a428 ((out ++ [(⟨[112] ++ x311.href, (x311.uuid ++ [10]) ++ (textS x311.shadow)⟩ : Pr)]).length) cap429] (by kernel_rfl : lookAt _ _ _ _ = some ((Op.store 72 (Operand.tmp 3) (Operand.tmp 65)), none)) (by kernel_rfl) B439 (by kernel_rfl) (by kernel_rfl) (by kernel_rfl) (one_of_all (by kernel_rfl)) (by kernel_rfl) ?_
  intro w449 E450 hz451 B452
  have hE453 := hE431.and1 E450 (by omega)
  have := E450.size
  have hC454 := hC432.andIn E450 (in1 (by simp))
  have Q455 := Q434.step same E450 (notin1 (by omega)) (in1 (List.mem_append_right _ (List.mem_append_right _ (List.mem_append_right _ (List.mem_append_right _ (List.mem_append_right _ (List.mem_append_left _ (List.mem_singleton.2 rfl))))))))
  have Q456 := Q435.step same E450 (notin1 (by omega)) (in1 (List.mem_append_right _ (List.mem_append_right _ (List.mem_append_right _ (List.mem_append_right _ (List.mem_append_right _ (List.mem_append_left _ (List.mem_singleton.2 rfl))))))))
  have B457 := B436.eff1 E450 (by omega)
  have B458 := B437.eff1 E450 (by omega)
  have B459 := B440.eff1 E450 (by omega)
  have B460 := B441.eff1 E450 (by omega)
  have R461 := R443.step same E450 (in1 (List.mem_append_right _ (List.mem_append_right _ (List.mem_append_right _ (List.mem_append_right _ (List.mem_append_right _ (List.mem_append_left _ (List.mem_singleton.2 rfl))))))))
  have C462 := Kd.step (Kd.array 8 [] (Kd.slice Kd.str) rfl) C444 same E450 (in1 (List.mem_append_right _ (List.mem_append_right _ (List.mem_append_right _ (List.mem_append_right _ (List.mem_append_right _ (List.mem_append_left _ (List.mem_singleton.2 rfl))))))))
  have B463 := B445.eff1 E450 (by omega)
  have B464 := B446.eff1 E450 (by omega)
  have O465 := O425.step same E450 (in1 (List.mem_append_right _ (List.mem_append_right _ (List.mem_append_right _ (List.mem_append_right _ (List.mem_append_left _ (List.mem_singleton.2 rfl)))))))
  have hM466 := hM448.eff E450
  refine L.done ?_
  have hsub467 : ∀ b, b ∈ [l170] ++ ([D169] ++ (ob (.slice a428 ((out ++ [(⟨[112] ++ x311.href, (x311.uuid ++ [10]) ++ (textS x311.shadow)⟩ : Pr)]).length) cap429) ++ ([b125] ++ ([b101] ++ M)))) → b ∈ [b328] ++ ([l170] ++ ([D169] ++ (ob (.slice a428 ((out ++ [(⟨[112] ++ x311.href, (x311.uuid ++ [10]) ++ (textS x311.shadow)⟩ : Pr)]).length) cap429) ++ ([b125] ++ ([b101] ++ M))))) := (sDrop sSame)
  have hM468 : Mok ([l170] ++ ([D169] ++ (ob (.slice a428 ((out ++ [(⟨[112] ++ x311.href, (x311.uuid ++ [10]) ++ (textS x311.shadow)⟩ : Pr)]).length) cap429) ++ ([b125] ++ ([b101] ++ M))))) w449 := hM466.sub hsub467
  have F469 := Q455.sub hsub467
  have F470 := Q456.sub hsub467
  have nm471 : 1 ∉ [l170] ++ ([D169] ++ (ob (.slice a428 ((out ++ [(⟨[112] ++ x311.href, (x311.uuid ++ [10]) ++ (textS x311.shadow)⟩ : Pr)]).length) cap429) ++ ([b125] ++ ([b101] ++ M)))) := fun h => nm438 (hsub467 _ h)
  have nm472 : b150 ∉ [l170] ++ ([D169] ++ (ob (.slice a428 ((out ++ [(⟨[112] ++ x311.href, (x311.uuid ++ [10]) ++ (textS x311.shadow)⟩ : Pr)]).length) cap429) ++ ([b125] ++ ([b101] ++ M)))) := fun h => nm442 (hsub467 _ h)
  have F473 := R461.sub hsub467
  have F474 := Kd.sub (Kd.array 8 [] (Kd.slice Kd.str) rfl) C462 hsub467
  have nm475 : b402 ∉ [l170] ++ ([D169] ++ (ob (.slice a428 ((out ++ [(⟨[112] ++ x311.href, (x311.uuid ++ [10]) ++ (textS x311.shadow)⟩ : Pr)]).length) cap429) ++ ([b125] ++ ([b101] ++ M)))) := fun h => nm447 (hsub467 _ h)
  have O476 := O465.sub (sDrop sSame)
  show (_ ∧ _)
  exact ⟨⟨_, hC454, (nin (notin1 (by omega)) (nin (O378.apart (List.mem_append_right _ (List.mem_append_left _ (List.mem_singleton.2 rfl)))) (nin (notin1 (by omega)) (nin (notin1 (by omega)) (by simp; omega))))), (nin (notin1 (by omega)) (nin (O378.apart (List.mem_append_right _ (List.mem_append_right _ (List.mem_append_left _ (List.mem_singleton.2 rfl))))) (nin (notin1 (by omega)) (nin (notin1 (by omega)) (by simp; omega)))))⟩, ⟨a428, cap429, out ++ [(⟨[112] ++ x311.href, (x311.uuid ++ [10]) ++ (textS x311.shadow)⟩ : Pr)], (Nat.le_refl _), hM468, (by omega), (by rw [hout, List.length_append, List.length_singleton]; exact rowP_snoc0 hx313), (by simp only [List.length_append, List.length_cons, List.length_nil]; omega), F469, F470, B457, B458, nm471, B452, B459, B460, nm472, F473, O476, hE453, trivial⟩⟩
 ·rintro N481 m480 pre w477 hF ⟨a180, cap181, out, hm482, hb483, hlt484, hout, hol, F485, F486, F487, F488, nm489, F490, F491, F492, nm493, F494, O495, hE496, -⟩ hlt478 DB479
  have hM497 : Mok ([l170] ++ ([D169] ++ (ob (.slice a180 out.length cap181) ++ ([b125] ++ ([b101] ++ M))))) w477 := bnd_mok hb483 hm482
  show S _ _ _ c31_n26 _ _ _ _
  refine S.seq (x := c31_n27) (y := c31_n28) (by kernel_rfl) ?_
  refine S.reg (ops := o31_n27) (js := [0, 1]) (by kernel_rfl) (by kernel_rfl) ?_
  refine L.val (.slice a180 out.length cap181) (by kernel_rfl : lookAt _ _ _ _ = some ((Op.load 72 (Operand.tmp 3)), some 66)) (by intro c e; cases e) (rx_load 0 (.slice a180 out.length cap181) (F490.cells) (by kernel_rfl) (by kernel_rfl)) ?_
  refine L.runU [1] [] [(2, .slice a180 out.length cap181)] (by kernel_rfl) (by kernel_rfl) ?_
  refine L.done ?_
  show S _ _ _ c31_n28 _ _ _ _
  refine S.ret (by kernel_rfl) ?_
  show Leave _ _ _ _ _ _ _ _
  refine Leave.mark (D := D169) (by intro h; cases h) DB479 ?_
  intro w498 E499 hs500
  have hE501 := hE496.and1 E499 (by omega)
  have := E499.size
  have Q502 := F485.step same E499 (notin1 (by omega)) (in1 (List.mem_append_right _ (List.mem_append_left _ (List.mem_singleton.2 rfl))))
  have Q503 := F486.step same E499 (notin1 (by omega)) (in1 (List.mem_append_right _ (List.mem_append_left _ (List.mem_singleton.2 rfl))))
  have B504 := F487.eff1 E499 (by omega)
  have B505 := F488.eff1 E499 (by omega)
  have B506 := F490.eff1 E499 (by omega)
  have B507 := F491.eff1 E499 (by omega)
  have B508 := F492.eff1 E499 (by omega)
  have R509 := F494.step same E499 (in1 (List.mem_append_right _ (List.mem_append_left _ (List.mem_singleton.2 rfl))))
  have O510 := O495.step same E499 (in1 (List.mem_append_right _ (List.mem_append_left _ (List.mem_singleton.2 rfl))))
  have hM511 := hM497.eff E499
  show Leave _ _ _ _ _ _ _ _
  refine Leave.ret1 (x := .tmp 2) (.slice a180 out.length cap181) (by kernel_rfl) (.ofT (by kernel_rfl)) ?_
  have := hF.1
  have R512 := O510.sl (by omega)
  have R513 : Sl kPr M w498 a180 out := R512.sub (sDrop (sDrop (sDrop (sDrop sSame))))
  have hx : out = (allF l1).map rowP := by rw [hout, List.take_of_length_le (by rw [hF.1]; exact Nat.le_refl _)] <;> rfl
  exact ⟨_, rfl, hE501, a180, cap181, hx ▸ rfl, hx ▸ R513⟩
 ·rintro e w1 h
  exact h.elim
noncomputable def c31b : Code := bodyOf Tryz.f31
noncomputable def c31b_0 : Code := kid 0 c31b
noncomputable def o31b_0 : Array Oper := regOps c31b_0
noncomputable def c31b_1 : Code := kid 1 c31b
noncomputable def c31b_1_0 : Code := kid 0 c31b_1
noncomputable def o31b_1_0 : Array Oper := regOps c31b_1_0
noncomputable def c31b_1_1 : Code := kid 1 c31b_1
noncomputable def c31b_1_1_0 : Code := kid 0 c31b_1_1
noncomputable def c31b_n6 : Code := kid 0 c31b_1_1_0
noncomputable def o31b_n6 : Array Oper := regOps c31b_n6
noncomputable def c31b_n7 : Code := kid 1 c31b_1_1_0
noncomputable def c31b_n8 : Code := kid 0 c31b_n7
noncomputable def o31b_n8 : Array Oper := regOps c31b_n8
noncomputable def c31b_n9 : Code := kid 1 c31b_n7
noncomputable def c31b_n10 : Code := kid 0 c31b_n9
noncomputable def c31b_n11 : Code := kid 0 c31b_n10
noncomputable def o31b_n11 : Array Oper := regOps c31b_n11
noncomputable def c31b_n12 : Code := kid 1 c31b_n10
noncomputable def c31b_n13 : Code := kid 0 c31b_n12
noncomputable def o31b_n13 : Array Oper := regOps c31b_n13
noncomputable def c31b_n14 : Code := kid 1 c31b_n12
noncomputable def o31b_n14 : Array Oper := regOps c31b_n14
noncomputable def c31b_n15 : Code := kid 1 c31b_n9
noncomputable def c31b_1_1_1 : Code := kid 1 c31b_1_1
noncomputable def c31b_n17 : Code := kid 0 c31b_1_1_1
noncomputable def c31b_n18 : Code := kid 0 c31b_n17
noncomputable def o31b_n18 : Array Oper := regOps c31b_n18
noncomputable def c31b_n19 : Code := kid 1 c31b_n17
noncomputable def c31b_n20 : Code := kid 0 c31b_n19
noncomputable def c31b_n21 : Code := kid 0 c31b_n20
noncomputable def o31b_n21 : Array Oper := regOps c31b_n21
noncomputable def c31b_n22 : Code := kid 1 c31b_n20
noncomputable def c31b_n23 : Code := kid 0 c31b_n22
noncomputable def c31b_n24 : Code := kid 0 c31b_n23
noncomputable def o31b_n24 : Array Oper := regOps c31b_n24
noncomputable def c31b_n25 : Code := kid 1 c31b_n23
noncomputable def o31b_n25 : Array Oper := regOps c31b_n25
noncomputable def c31b_n26 : Code := kid 1 c31b_1_1_1
noncomputable def c31b_n27 : Code := kid 0 c31b_n26
noncomputable def o31b_n27 : Array Oper := regOps c31b_n27
noncomputable def c31b_n28 : Code := kid 1 c31b_n26
set_option maxHeartbeats 400000 in
theorem rows_some (M : List Nat) (pb b1 b2 : Nat) (l1 : List (Str × Pg)) (l2 : List (Str × Str)) (b3 : Nat) (cs : List Value) (y : Pm) (w : World) (hB : Blk w pb [.map (some b1), .map (some b2), .pointer (some ⟨b3, 0, none⟩)] 59) (hp1 : pb ≠ b1) (hp2 : pb ≠ b2) (hM : Mok M w) (Q1 : MapIs Key.str kPg true M w b1 l1) (Q2 : MapIs Key.str Kd.str false M w b2 l2) (hb1 : b1 ∈ M) (hb2 : b2 ∈ M) (hne : b1 ≠ b2) (hs : ∀ q x, mget l1 q = some x → ∀ j, (x.shadow.getD j []).length ≤ 1048576) (hl : l1.length ≤ 1000000) (hkeys : ∀ p ∈ l1, p.1.length < 4611686018427387904) (hxx : ∀ x ∈ allF l1, x.href.length ≤ 100 ∧ x.uuid.length ≤ 100) (hTab : TabP w) (hTM : 1 ∉ M) (hy : kPm.R M w cs y) (hB3 : Blk w b3 cs 34) (hp3 : pb ≠ b3) (hyb : ∀ j, (y.shadow.getD j []).length ≤ 1048576) (hyd : y.dn.length ≤ 1048576) (hyl : y.href.length ≤ 100 ∧ y.uuid.length ≤ 100) : Calls Tryz.prog 31 #[.pointer (some ⟨pb, 0, none⟩)] w (RetW [] w fun v w' => ∃ a cap, v = .slice a (rowI y :: (allF l1).map rowP).length cap ∧ Sl kPr M w' a (rowI y :: (allF l1).map rowP)) := by
 refine calls_of_S (n := 67) (c := c31b) Tryz.func31 (by kernel_rfl) (by kernel_rfl) (Nat.le_of_ble_eq_true (by kernel_rfl)) ?_
 have := Q1.lt
 have := Q2.lt
 have := hB.lt
 have := hTab.lt
 have := hB3.lt
 obtain ⟨hyl1, hyl2⟩ := hyl
 have hal : (allF l1).length = l1.length := allF_len l1
 obtain ⟨_, _, rfl, ⟨rfl, hl101⟩, ⟨_, _, rfl, ⟨rfl, hl102⟩, ⟨_, _, rfl, ⟨a103, cap104, rfl, R105⟩, ⟨v106, v107, v108, v109, v110, v111, v112, v113, rfl, C114⟩⟩⟩⟩ := hy
 have hE0 : Eff [] w w := Eff.refl _ _
 refine S.seq (x := c31b_0) (y := c31b_1) (by kernel_rfl) ?_
 refine S.reg (ops := o31b_0) (js := [0]) (by kernel_rfl) (by kernel_rfl) ?_
 refine L.runU [0] [] [(2, .slice none 0 0)] (by kernel_rfl) (by kernel_rfl) ?_
 refine L.done ?_
 show S _ _ _ c31b_1 _ _ _ _
 refine S.seq (x := c31b_1_0) (y := c31b_1_1) (by kernel_rfl) ?_
 refine S.reg (ops := o31b_1_0) (js := [0]) (by kernel_rfl) (by kernel_rfl) ?_
 refine L.alloc [.slice none 0 0] (by kernel_rfl : lookAt _ _ _ _ = some ((Op.alloc 72), some 3)) (by kernel_rfl) ?_
 intro b115 w116 hs117 hz118 E119 B120
 have hE121 := hE0.and0 E119
 have := E119.size
 have Q122 := Q1.step (nNew (fresh1 hs117) same) E119 (by simp) no0
 have Q123 := Q2.step (nNew (fresh1 hs117) same) E119 (by simp) no0
 have B124 := hB.eff0 E119
 have nm126 := ninN hTM hTab.lt (nNew (fresh1 hs117) same)
 have B125 := hTab.eff0 E119
 have R127 := R105.step (nNew (fresh1 hs117) same) E119 no0
 have C128 := Kd.step (Kd.array 8 [] (Kd.slice Kd.str) rfl) C114 (nNew (fresh1 hs117) same) E119 no0
 have B129 := hB3.eff0 E119
 have hM130 : Mok ([b115] ++ M) w116 := hM.step E119 (nNew (flt1 (b := b115) (by omega)) same)
 refine L.done ?_
 show S _ _ _ c31b_1_1 _ _ _ _
 have O131 : Own kPr 77 w.heap.size ([b115] ++ M) w116 (.slice none 0 0) [] := Own.nil _ _ _ _ _
 have R132 : MapIs Key.str kPg true (ob (.slice none 0 0) ++ ([b115] ++ M)) w116 b1 l1 := Q122
 have R133 : MapIs Key.str Kd.str false (ob (.slice none 0 0) ++ ([b115] ++ M)) w116 b2 l2 := Q123
 have nm134 : 1 ∉ ob (.slice none 0 0) ++ ([b115] ++ M) := nm126
 have R135 : Sl kRd (ob (.slice none 0 0) ++ ([b115] ++ M)) w116 a103 y.dn := R127
 have R136 : (Kd.array 8 [] (Kd.slice Kd.str) rfl).R (ob (.slice none 0 0) ++ ([b115] ++ M)) w116 [v106, v107, v108, v109, v110, v111, v112, v113] y.shadow := C128
 have hM137 : Mok (ob (.slice none 0 0) ++ ([b115] ++ M)) w116 := hM130
 refine S.join (x := c31b_1_1_0) (y := c31b_1_1_1) (fun σ' ds' w' => ∃ (a138 : Option Addr) (cap139 : Nat) (o1 : List Pr), (o1 = [rowI y]) ∧ MapIs Key.str kPg true (ob (.slice a138 o1.length cap139) ++ ([b115] ++ M)) w' b1 l1 ∧ MapIs Key.str Kd.str false (ob (.slice a138 o1.length cap139) ++ ([b115] ++ M)) w' b2 l2 ∧ Blk w' pb ([.map (some b1), .map (some b2), .pointer (some ⟨b3, 0, none⟩)]) 59 ∧ TabP w' ∧ 1 ∉ ob (.slice a138 o1.length cap139) ++ ([b115] ++ M) ∧ Sl kRd (ob (.slice a138 o1.length cap139) ++ ([b115] ++ M)) w' a103 y.dn ∧ (Kd.array 8 [] (Kd.slice Kd.str) rfl).R (ob (.slice a138 o1.length cap139) ++ ([b115] ++ M)) w' [v106, v107, v108, v109, v110, v111, v112, v113] y.shadow ∧ Blk w' b3 ([sv y.href, sv y.uuid, .slice a103 y.dn.length cap104, v106, v107, v108, v109, v110, v111, v112, v113]) 34 ∧ Blk w' b115 ([.slice a138 o1.length cap139]) 72 ∧ Own kPr 77 w.heap.size ([b115] ++ M) w' (.slice a138 o1.length cap139) o1 ∧ Mok (ob (.slice a138 o1.length cap139) ++ ([b115] ++ M)) w' ∧ Eff [] w w' ∧ w116.heap.size ≤ w'.heap.size ∧ ds' = [] ∧ ∃ u, σ' = slots u [(0, .pointer (some ⟨pb, 0, none⟩)), (2, .slice none 0 0), (3, .pointer (some ⟨b115, 0, none⟩))]) (by kernel_rfl) ?_ ?_
 ·refine S.seq (x := c31b_n6) (y := c31b_n7) (by kernel_rfl) ?_
  refine S.reg (ops := o31b_n6) (js := [0, 1, 2, 3, 4, 5, 6, 7]) (by kernel_rfl) (by kernel_rfl) ?_
  refine L.runU [0] [1, 2, 3, 4, 5, 6, 7] [(15, .pointer (some ⟨pb, 0, none⟩))] (by kernel_rfl) (by kernel_rfl) ?_
  refine L.call (f := 23) (by kernel_rfl : lookAt _ _ _ _ = some ((Op.call { callee := (Callee.value (Operand.func 23)), args := #[(Operand.tmp 15)], argTypes := #[25] }), some 16)) e23 (by kernel_rfl) (promised_some (ob (.slice none 0 0) ++ ([b115] ++ M)) pb b1 _ b3 [sv y.href, sv y.uuid, .slice a103 y.dn.length cap104, v106, v107, v108, v109, v110, v111, v112, v113] y _ hM137 B124 (⟨[sv y.href], [sv y.uuid, .slice a103 y.dn.length cap104, v106, v107, v108, v109, v110, v111, v112, v113], rfl, ⟨rfl, by omega⟩, ⟨[sv y.uuid], [.slice a103 y.dn.length cap104, v106, v107, v108, v109, v110, v111, v112, v113], rfl, ⟨rfl, by omega⟩, ⟨[.slice a103 y.dn.length cap104], [v106, v107, v108, v109, v110, v111, v112, v113], rfl, ⟨_, _, rfl, R135⟩, ⟨_, _, _, _, _, _, _, _, rfl, R136⟩⟩⟩⟩) B129 hyb hyd) ?_
  rintro _ w146 E147 ⟨cs143, rfl, R144⟩
  obtain ⟨_, _, rfl, ⟨rfl, hl149⟩, ⟨_, _, rfl, ⟨rfl, hl150⟩, ⟨_, _, rfl, ⟨a151, cap152, rfl, R153⟩, ⟨v154, v155, v156, v157, v158, v159, v160, v161, rfl, C162⟩⟩⟩⟩ := R144
  have hE163 := hE121.and0 E147
  have := E147.size
  have Q164 := R132.step same E147 (by simp) no0
  have Q165 := R133.step same E147 (by simp) no0
  have B166 := B124.eff0 E147
  have B167 := B125.eff0 E147
  have R168 := R135.step same E147 no0
  have C169 := Kd.step (Kd.array 8 [] (Kd.slice Kd.str) rfl) R136 same E147 no0
  have B170 := B129.eff0 E147
  have B171 := B120.eff0 E147
  have O172 := O131.step same E147 no0
  have hM173 := hM137.eff E147
  refine L.runU [2, 3, 4] [5, 6, 7] [(14, .tuple #[.agg #[sv y.href, sv y.uuid, .slice a151 y.dn.length cap152, v154, v155, v156, v157, v158, v159, v160, v161], .bool true]), (17, .agg #[sv y.href, sv y.uuid, .slice a151 y.dn.length cap152, v154, v155, v156, v157, v158, v159, v160, v161]), (18, .bool true)] (by kernel_rfl) (by kernel_rfl) ?_
  refine L.alloc [sv [], sv [], .slice none 0 0, .slice none 0 0, .slice none 0 0, .slice none 0 0, .slice none 0 0, .slice none 0 0, .slice none 0 0, .slice none 0 0, .slice none 0 0] (by kernel_rfl : lookAt _ _ _ _ = some ((Op.alloc 34), some 4)) (by kernel_rfl) ?_
  intro b174 w175 hs176 hz177 E178 B179
  have hE180 := hE163.and0 E178
  have := E178.size
  have Q181 := Q164.step (nNew (fresh1 hs176) (nKeep (nKeep same))) E178 (by simp) no0
  have Q182 := Q165.step (nNew (fresh1 hs176) (nKeep (nKeep same))) E178 (by simp) no0
  have B183 := B166.eff0 E178
  have nm185 := ninN nm134 B167.lt (nNew (fresh1 hs176) (nKeep (nKeep same)))
  have B184 := B167.eff0 E178
  have R186 := R168.step (nNew (fresh1 hs176) (nKeep (nKeep same))) E178 no0
  have C187 := Kd.step (Kd.array 8 [] (Kd.slice Kd.str) rfl) C169 (nNew (fresh1 hs176) (nKeep (nKeep same))) E178 no0
  have B188 := B170.eff0 E178
  have B189 := B171.eff0 E178
  have O190 := O172.step (nNew (fresh1 hs176) (nKeep same)) E178 no0
  have R191 := R153.step (nNew (fresh1 hs176) (nKeep (nKeep same))) E178 no0
  have C192 := Kd.step (Kd.array 8 [] (Kd.slice Kd.str) rfl) C162 (nNew (fresh1 hs176) (nKeep (nKeep same))) E178 no0
  have hM193 : Mok ([b174] ++ (ob (.slice none 0 0) ++ ([b115] ++ M))) w175 := hM173.step E178 (nNew (flt1 (b := b174) (by omega)) (nKeep (nKeep same)))
  refine L.store 0 [sv y.href, sv y.uuid, .slice a151 y.dn.length cap152, v154, v155, v156, v157, v158, v159, v160, v161] [sv y.href, sv y.uuid, .slice a151 y.dn.length cap152, v154, v155, v156, v157, v158, v159, v160, v161] (by kernel_rfl : lookAt _ _ _ _ = some ((Op.store 34 (Operand.tmp 4) (Operand.tmp 17)), none)) (by kernel_rfl) B179 (by kernel_rfl) (by kernel_rfl) (by kernel_rfl) (ones_app (a := [sv y.href, sv y.uuid, .slice a151 y.dn.length cap152]) (b := [v154, v155, v156, v157, v158, v159, v160, v161]) (one_of_all (by kernel_rfl)) (Kd.one (Kd.array 8 [] (Kd.slice Kd.str) rfl) C192)) (by kernel_rfl) ?_
  intro w194 E195 hz196 B197
  have hE198 := hE180.and1 E195 (by omega)
  have := E195.size
  have Q199 := Q181.step same E195 (notin1 (by omega)) (in1 (List.mem_append_left _ (List.mem_singleton.2 rfl)))
  have Q200 := Q182.step same E195 (notin1 (by omega)) (in1 (List.mem_append_left _ (List.mem_singleton.2 rfl)))
  have B201 := B183.eff1 E195 (by omega)
  have B202 := B184.eff1 E195 (by omega)
  have R203 := R186.step same E195 (in1 (List.mem_append_left _ (List.mem_singleton.2 rfl)))
  have C204 := Kd.step (Kd.array 8 [] (Kd.slice Kd.str) rfl) C187 same E195 (in1 (List.mem_append_left _ (List.mem_singleton.2 rfl)))
  have B205 := B188.eff1 E195 (by omega)
  have B206 := B189.eff1 E195 (by omega)
  have O207 := O190.step same E195 (in1 (List.mem_append_left _ (List.mem_singleton.2 rfl)))
  have R208 := R191.step same E195 (in1 (List.mem_append_left _ (List.mem_singleton.2 rfl)))
  have C209 := Kd.step (Kd.array 8 [] (Kd.slice Kd.str) rfl) C192 same E195 (in1 (List.mem_append_left _ (List.mem_singleton.2 rfl)))
  have hM210 := hM193.eff E195
  refine L.runU [7] [] [(5, .bool true)] (by kernel_rfl) (by kernel_rfl) ?_
  refine L.done ?_
  show S _ _ _ c31b_n7 _ _ _ _
  refine S.seq (x := c31b_n8) (y := c31b_n9) (by kernel_rfl) ?_
  refine S.reg (ops := o31b_n8) (js := [0]) (by kernel_rfl) (by kernel_rfl) ?_
  refine L.runU [0] [] [(19, .bool true)] (by kernel_rfl) (by kernel_rfl) ?_
  refine L.done ?_
  show S _ _ _ c31b_n9 _ _ _ _
  refine S.condT (o := (Operand.tmp 19)) (x := c31b_n10) (y := c31b_n15) (by kernel_rfl) (by kernel_rfl) ?_
  refine S.seq (x := c31b_n11) (y := c31b_n12) (by kernel_rfl) ?_
  refine S.reg (ops := o31b_n11) (js := [0, 1, 2, 3, 4, 5, 6, 7]) (by kernel_rfl) (by kernel_rfl) ?_
  refine L.runU [0] [1, 2, 3, 4, 5, 6, 7] [(21, .pointer (some ⟨b174, 2, none⟩))] (by kernel_rfl) (by kernel_rfl) ?_
  refine L.val (.slice a151 y.dn.length cap152) (by kernel_rfl : lookAt _ _ _ _ = some ((Op.load 29 (Operand.tmp 21)), some 22)) (by intro c e; cases e) (rx_load 2 (.slice a151 y.dn.length cap152) (B197.cells) (by kernel_rfl) (by kernel_rfl)) ?_
  refine L.call (f := 57) (by kernel_rfl : lookAt _ _ _ _ = some ((Op.call { callee := (Callee.value (Operand.func 57)), args := #[(Operand.tmp 22)], argTypes := #[29] }), some 23)) e57 (by kernel_rfl) (dntext2_ok a151 cap152 y.dn _ R208.wk0) ?_
  rintro _ w212 E213 rfl
  have hE215 := hE198.and0 E213
  have := E213.size
  have Q216 := Q199.step same E213 (by simp) no0
  have Q217 := Q200.step same E213 (by simp) no0
  have B218 := B201.eff0 E213
  have B219 := B202.eff0 E213
  have R220 := R203.step same E213 no0
  have C221 := Kd.step (Kd.array 8 [] (Kd.slice Kd.str) rfl) C204 same E213 no0
  have B222 := B205.eff0 E213
  have B223 := B206.eff0 E213
  have O224 := O207.step same E213 no0
  have R225 := R208.step same E213 no0
  have C226 := Kd.step (Kd.array 8 [] (Kd.slice Kd.str) rfl) C209 same E213 no0
  have B227 := B197.eff0 E213
  have hM228 := hM210.eff E213
  have := dnS_len y.dn
  refine L.runU [3, 4, 5, 6, 7] [] [(20, .tuple #[sv (dnS y.dn), .int .i64 (errD y.dn)]), (24, sv (dnS y.dn)), (25, .int .i64 (errD y.dn)), (6, sv (dnS y.dn)), (7, .int .i64 (errD y.dn))] (by kernel_rfl) (by kernel_rfl) ?_
  refine L.done ?_
  show S _ _ _ c31b_n12 _ _ _ _
  refine S.seq (x := c31b_n13) (y := c31b_n14) (by kernel_rfl) ?_
  refine S.reg (ops := o31b_n13) (js := [0, 1, 2, 3, 4, 5, 6, 7]) (by kernel_rfl) (by kernel_rfl) ?_
  refine L.runU [0] [1, 2, 3, 4, 5, 6, 7] [(27, .pointer (some ⟨b174, 3, none⟩))] (by kernel_rfl) (by kernel_rfl) ?_
  refine L.val (.agg #[v154, v155, v156, v157, v158, v159, v160, v161]) (by kernel_rfl : lookAt _ _ _ _ = some ((Op.load 32 (Operand.tmp 27)), some 28)) (by intro c e; cases e) (rx_load 3 (.agg #[v154, v155, v156, v157, v158, v159, v160, v161]) (B227.cells) (by kernel_rfl) (by kernel_rfl)) ?_
  refine L.call (f := 58) (by kernel_rfl : lookAt _ _ _ _ = some ((Op.call { callee := (Callee.value (Operand.func 58)), args := #[(Operand.tmp 28)], argTypes := #[32] }), some 29)) e58 (by kernel_rfl) (text2_ok [v154, v155, v156, v157, v158, v159, v160, v161] y.shadow _ (Kd.wk0 kCt ⟨_, _, _, _, _, _, _, _, rfl, C226⟩) B219) ?_
  rintro _ w230 E231 rfl
  have hE233 := hE215.and0 E231
  have := E231.size
  have Q234 := Q216.step same E231 (by simp) no0
  have Q235 := Q217.step same E231 (by simp) no0
  have B236 := B218.eff0 E231
  have B237 := B219.eff0 E231
  have R238 := R220.step same E231 no0
  have C239 := Kd.step (Kd.array 8 [] (Kd.slice Kd.str) rfl) C221 same E231 no0
  have B240 := B222.eff0 E231
  have B241 := B223.eff0 E231
  have O242 := O224.step same E231 no0
  have R243 := R225.step same E231 no0
  have C244 := Kd.step (Kd.array 8 [] (Kd.slice Kd.str) rfl) C226 same E231 no0
  have B245 := B227.eff0 E231
  have hM246 := hM228.eff E231
  have := textS_len y.shadow
  refine L.runU [3, 4, 5, 6, 7] [] [(26, .tuple #[sv (textS y.shadow), .int .i64 (errR y.shadow)]), (30, sv (textS y.shadow)), (31, .int .i64 (errR y.shadow)), (8, sv (textS y.shadow)), (9, .int .i64 (errR y.shadow))] (by kernel_rfl) (by kernel_rfl) ?_
  refine L.done ?_
  show S _ _ _ c31b_n14 _ _ _ _
  refine S.draw (ops := o31b_n14) (Eff (ob (.slice none 0 0) ++ [b115])) 13 #[false, false, false, false, false, false, false, false, false, false, false, false, false] (by kernel_rfl) (by kernel_rfl) (by kernel_rfl) (by kernel_rfl) ?_
  intro w247 E248 hw249
  have hE251 := hE233.and0 E248
  have := E248.size
  have Q252 := Q234.step same E248 (by simp) no0
  have Q253 := Q235.step same E248 (by simp) no0
  have B254 := B236.eff0 E248
  have B255 := B237.eff0 E248
  have R256 := R238.step same E248 no0
  have C257 := Kd.step (Kd.array 8 [] (Kd.slice Kd.str) rfl) C239 same E248 no0
  have B258 := B240.eff0 E248
  have B259 := B241.eff0 E248
  have O260 := O242.step same E248 no0
  have R261 := R243.step same E248 no0
  have C262 := Kd.step (Kd.array 8 [] (Kd.slice Kd.str) rfl) C244 same E248 no0
  have B263 := B245.eff0 E248
  have hM264 := hM246.eff E248
  have hS250 := Eff.refl (ob (.slice none 0 0) ++ [b115]) w247
  have mm265 : ∀ x, x ∈ ob (.slice none 0 0) → x ∈ ob (.slice none 0 0) ++ [b115] ∨ w247.heap.size ≤ x := fun x hx => .inl (by simp [hx])
  refine D.take 1 (.pointer (some ⟨b174, 0, none⟩)) (some 33) #[false, true, false, false, false, false, false, false, false, false, false, false, false] (by kernel_rfl) (by kernel_rfl) (by kernel_rfl) (fun _ _ _ _ h => LeaveP.put h (by kernel_rfl)) (.pure (n := 67) (by kernel_rfl)) hS250 ?_
  refine D.take 2 (sv y.href) (some 34) #[false, true, true, false, false, false, false, false, false, false, false, false, false] (by kernel_rfl) (by kernel_rfl) (by kernel_rfl) (fun _ _ _ _ h => LeaveP.put h (by kernel_rfl)) (.val (n := 67) (by kernel_rfl : lookAt _ _ _ _ = some ((Op.load 9 (Operand.tmp 33)), some 34)) (by intro c e; cases e) (fun _ h => rx_load 0 (sv y.href) ((B263.eff h (nin (O260.apart (List.mem_append_left _ (List.mem_singleton.2 rfl))) (notin1 (by omega)))).cells) (by kernel_rfl) (by kernel_rfl))) hS250 ?_
  refine D.take 3 (.pointer (some ⟨b174, 1, none⟩)) (some 35) #[false, true, true, true, false, false, false, false, false, false, false, false, false] (by kernel_rfl) (by kernel_rfl) (by kernel_rfl) (fun _ _ _ _ h => LeaveP.put h (by kernel_rfl)) (.pure (n := 67) (by kernel_rfl)) hS250 ?_
  refine D.take 4 (sv y.uuid) (some 36) #[false, true, true, true, true, false, false, false, false, false, false, false, false] (by kernel_rfl) (by kernel_rfl) (by kernel_rfl) (fun _ _ _ _ h => LeaveP.put h (by kernel_rfl)) (.val (n := 67) (by kernel_rfl : lookAt _ _ _ _ = some ((Op.load 9 (Operand.tmp 35)), some 36)) (by intro c e; cases e) (fun _ h => rx_load 1 (sv y.uuid) ((B263.eff h (nin (O260.apart (List.mem_append_left _ (List.mem_singleton.2 rfl))) (notin1 (by omega)))).cells) (by kernel_rfl) (by kernel_rfl))) hS250 ?_
  refine D.take 5 (sv (dnS y.dn)) (some 37) #[false, true, true, true, true, true, false, false, false, false, false, false, false] (by kernel_rfl) (by kernel_rfl) (by kernel_rfl) (fun _ _ _ _ h => LeaveP.put h (by kernel_rfl)) (.pure (n := 67) (by kernel_rfl)) hS250 ?_
  refine D.take 6 (sv (textS y.shadow)) (some 38) #[false, true, true, true, true, true, true, false, false, false, false, false, false] (by kernel_rfl) (by kernel_rfl) (by kernel_rfl) (fun _ _ _ _ h => LeaveP.put h (by kernel_rfl)) (.pure (n := 67) (by kernel_rfl)) hS250 ?_
  refine D.all [0, 7] (by kernel_rfl) (by kernel_rfl) ⟨?_, ?_, trivial⟩
  ·refine L.val (.slice none 0 0) (by kernel_rfl : lookAt _ _ _ _ = some ((Op.load 72 (Operand.tmp 3)), some 32)) (by intro c e; cases e) (rx_load 0 (.slice none 0 0) (B259.cells) (by kernel_rfl) (by kernel_rfl)) ?_
   refine ⟨hS250, ?_⟩
   refine D.all [7] (by kernel_rfl) (by kernel_rfl) ⟨?_, trivial⟩
   refine L.newRow (fun b => .slice (some ⟨b, 0, none⟩) 4 4) [sv y.href, sv y.uuid, sv (dnS y.dn), sv (textS y.shadow)] 9 (by kernel_rfl : lookAt _ _ _ _ = some ((Op.buildSlice 30 4 #[(0, (Operand.tmp 34)), (1, (Operand.tmp 36)), (2, (Operand.tmp 37)), (3, (Operand.tmp 38))]), some 39)) (by intro c e; cases e) (fun w => by kernel_rfl) ?_
   intro b266 w267 hs268 hz269 E270 B271
   have nm272 := not_mem_of_ge (b := b266) hM264 (by omega)
   have hE273 := hE251.and0 E270
   have := E270.size
   have hS274 := hS250.and0 E270
   have Q275 := Q252.step same E270 (by simp) no0
   have Q276 := Q253.step same E270 (by simp) no0
   have B277 := B254.eff0 E270
   have B278 := B255.eff0 E270
   have R279 := R256.step same E270 no0
   have C280 := Kd.step (Kd.array 8 [] (Kd.slice Kd.str) rfl) C257 same E270 no0
   have B281 := B258.eff0 E270
   have B282 := B259.eff0 E270
   have O283 := O260.step same E270 no0
   have R284 := R261.step same E270 no0
   have C285 := Kd.step (Kd.array 8 [] (Kd.slice Kd.str) rfl) C262 same E270 no0
   have B286 := B263.eff0 E270
   have hM287 := hM264.eff E270
   refine ⟨hS274, ?_⟩
   refine D.all [8] (by kernel_rfl) (by kernel_rfl) ⟨?_, trivial⟩
   refine L.call (f := 59) (by kernel_rfl : lookAt _ _ _ _ = some ((Op.call { callee := (Callee.value (Operand.func 59)), args := #[(Operand.tmp 39), (Operand.const (Value.string { data := #[10] }))], argTypes := #[30, 9] }), some 40)) e59 (by kernel_rfl) (join_ok b266 4 [y.href, y.uuid, dnS y.dn, textS y.shadow] [10] _ B271 (by simp only [List.length_cons, List.length_nil]; omega) (by simp only [List.length_cons, List.length_nil]; omega) (by simp only [Lib.join, List.intercalate, List.intersperse, List.flatten_cons, List.flatten_nil, List.length_append, List.length_cons, List.length_nil]; omega)) ?_
   rintro _ w289 E290 rfl
   have hE292 := hE273.and0 E290
   have := E290.size
   have hS293 := hS274.and0 E290
   have Q294 := Q275.step same E290 (by simp) no0
   have Q295 := Q276.step same E290 (by simp) no0
   have B296 := B277.eff0 E290
   have B297 := B278.eff0 E290
   have R298 := R279.step same E290 no0
   have C299 := Kd.step (Kd.array 8 [] (Kd.slice Kd.str) rfl) C280 same E290 no0
   have B300 := B281.eff0 E290
   have B301 := B282.eff0 E290
   have O302 := O283.step same E290 no0
   have R303 := R284.step same E290 no0
   have C304 := Kd.step (Kd.array 8 [] (Kd.slice Kd.str) rfl) C285 same E290 no0
   have B305 := B286.eff0 E290
   have B306 := B271.eff0 E290
   have hM307 := hM287.eff E290
   have : (Lib.join [y.href, y.uuid, dnS y.dn, textS y.shadow] [10]).length ≤ 1000000 := by simp only [Lib.join, List.intercalate, List.intersperse, List.flatten_cons, List.flatten_nil, List.length_append, List.length_cons, List.length_nil]; omega
   refine ⟨hS293, ?_⟩
   refine D.take 9 (.agg #[sv [105], sv (Lib.join [y.href, y.uuid, dnS y.dn, textS y.shadow] [10])]) (some 41) #[true, true, true, true, true, true, true, true, true, true, false, false, false] (by kernel_rfl) (by kernel_rfl) (by kernel_rfl) (fun _ _ _ _ h => LeaveP.put h (by kernel_rfl)) (.pure (n := 67) (by kernel_rfl)) hS293 ?_
   refine D.all [10] (by kernel_rfl) (by kernel_rfl) ⟨?_, trivial⟩
   refine L.newRow (fun b => .slice (some ⟨b, 0, none⟩) 1 1) [sv [105], sv (Lib.join [y.href, y.uuid, dnS y.dn, textS y.shadow] [10])] 77 (by kernel_rfl : lookAt _ _ _ _ = some ((Op.buildSlice 72 1 #[(0, (Operand.tmp 41))]), some 42)) (by intro c e; cases e) (fun w => by kernel_rfl) ?_
   intro b308 w309 hs310 hz311 E312 B313
   have nm314 := not_mem_of_ge (b := b308) hM307 (by omega)
   have hE315 := hE292.and0 E312
   have := E312.size
   have hS316 := hS293.and0 E312
   have Q317 := Q294.step same E312 (by simp) no0
   have Q318 := Q295.step same E312 (by simp) no0
   have B319 := B296.eff0 E312
   have B320 := B297.eff0 E312
   have R321 := R298.step same E312 no0
   have C322 := Kd.step (Kd.array 8 [] (Kd.slice Kd.str) rfl) C299 same E312 no0
   have B323 := B300.eff0 E312
   have B324 := B301.eff0 E312
   have O325 := O302.step same E312 no0
   have R326 := R303.step same E312 no0
   have C327 := Kd.step (Kd.array 8 [] (Kd.slice Kd.str) rfl) C304 same E312 no0
   have B328 := B305.eff0 E312
   have B329 := B306.eff0 E312
   have hM330 := hM307.eff E312
   refine ⟨hS316, ?_⟩
   refine D.all [11] (by kernel_rfl) (by kernel_rfl) ⟨?_, trivial⟩
   refine L.append (K := kPr) (e := 77) (base := w.heap.size) (bytes := 32) (M := [b174] ++ ([b115] ++ M)) (v := .slice none 0 0) (xs := []) (ys := [(⟨[105], Lib.join [y.href, y.uuid, dnS y.dn, textS y.shadow] [10]⟩ : Pr)]) (a := some ⟨b308, 0, none⟩) (cap := 1) (by kernel_rfl : lookAt _ _ _ _ = some ((Op.call { callee := (Callee.builtin Builtin.append), args := #[(Operand.tmp 32), (Operand.tmp 42)], argTypes := #[72, 72] }), some 43)) (by kernel_rfl) (by kernel_rfl) (by kernel_rfl) (by kernel_rfl) O325 (Sl.one (K := kPr) (x := (⟨[105], Lib.join [y.href, y.uuid, dnS y.dn, textS y.shadow] [10]⟩ : Pr)) B313 (fun h => nm314 ((sPull sSame) _ h)) (Kd.sub kPr (M := [b174] ++ (ob (.slice none 0 0) ++ ([b115] ++ M))) (w := w309) (cs := [sv [105], sv (Lib.join [y.href, y.uuid, dnS y.dn, textS y.shadow] [10])]) (x := (⟨[105], Lib.join [y.href, y.uuid, dnS y.dn, textS y.shadow] [10]⟩ : Pr)) ⟨[sv [105]], [sv (Lib.join [y.href, y.uuid, dnS y.dn, textS y.shadow] [10])], rfl, ⟨rfl, by (simp only [List.length_cons, List.length_nil, List.length_append, List.length_take, List.length_drop, List.length_map, List.length_replicate] <;> omega)⟩, ⟨rfl, by (simp only [List.length_cons, List.length_nil, List.length_append, List.length_take, List.length_drop, List.length_map, List.length_replicate] <;> omega)⟩⟩ (sPull sSame))) (hM330.sub (sKeep (sDrop sSame))) (by (simp only [List.length_cons, List.length_nil, List.length_append, List.length_take, List.length_drop, List.length_map, List.length_replicate] <;> omega)) (by omega) hE315.size ?_
   intro v331 w332 O333 E334 hat335
   obtain ⟨a336, cap337, rfl⟩ := O333.slice
   simp only [List.nil_append] at O333 hat335
   have hat338 := hatN hat335
   have hE339 := hE315.andMem E334 (memOwn O325 (Nat.le_refl _))
   have := E334.size
   have hS340 := hS316.andMem E334 mm265
   have mm341 := memN (base := w247.heap.size) mm265 hat338 (by omega)
   have Q342 := Q317.step (nKeep (nTurn hat338 (nKeep same))) E334 (fun h => absurd (O325.lt _ h).1 (by omega)) (fun _ h => List.mem_append_right _ (List.mem_append_left _ (h)))
   have Q343 := Q318.step (nKeep (nTurn hat338 (nKeep same))) E334 (fun h => absurd (O325.lt _ h).1 (by omega)) (fun _ h => List.mem_append_right _ (List.mem_append_left _ (h)))
   have B344 := B319.eff E334 (fun h => absurd (O325.lt _ h).1 (by omega))
   have nm346 := ninN nm185 B320.lt (nKeep (nTurn hat338 (nKeep same)))
   have B345 := B320.eff E334 (fun h => nm185 (List.mem_append_right _ (List.mem_append_left _ (h))))
   have R347 := R321.step (nKeep (nTurn hat338 (nKeep same))) E334 (fun _ h => List.mem_append_right _ (List.mem_append_left _ (h)))
   have C348 := Kd.step (Kd.array 8 [] (Kd.slice Kd.str) rfl) C322 (nKeep (nTurn hat338 (nKeep same))) E334 (fun _ h => List.mem_append_right _ (List.mem_append_left _ (h)))
   have B349 := B323.eff E334 (fun h => absurd (O325.lt _ h).1 (by omega))
   have B350 := B324.eff E334 (O325.apart (List.mem_append_right _ (List.mem_append_left _ (List.mem_singleton.2 rfl))))
   have R351 := R326.step (nKeep (nTurn hat338 (nKeep same))) E334 (fun _ h => List.mem_append_right _ (List.mem_append_left _ (h)))
   have C352 := Kd.step (Kd.array 8 [] (Kd.slice Kd.str) rfl) C327 (nKeep (nTurn hat338 (nKeep same))) E334 (fun _ h => List.mem_append_right _ (List.mem_append_left _ (h)))
   have B353 := B328.eff E334 (O325.apart (List.mem_append_left _ (List.mem_singleton.2 rfl)))
   have nm355 := ninN nm272 B329.lt (nKeep (nTurn hat338 (nKeep same)))
   have B354 := B329.eff E334 (fun h => nm272 (List.mem_append_right _ (List.mem_append_left _ (h))))
   have nm357 := ninN nm314 B313.lt (nKeep (nTurn hat338 (nKeep same)))
   have B356 := B313.eff E334 (fun h => nm314 (List.mem_append_right _ (List.mem_append_left _ (h))))
   have hM358 : Mok ([b174] ++ (ob (.slice a336 (([(⟨[105], Lib.join [y.href, y.uuid, dnS y.dn, textS y.shadow] [10]⟩ : Pr)]).length) cap337) ++ ([b115] ++ M))) w332 := hM330.step E334 (nKeep (nTurn (fun b hb => .inr ((fun b hb => (O333.lt b hb).2) b hb)) (nKeep same)))
   refine ⟨hS340, ?_⟩
   refine D.all [12] (by kernel_rfl) (by kernel_rfl) ⟨?_, trivial⟩
   refine L.store 0 [.slice a336 (([(⟨[105], Lib.join [y.href, y.uuid, dnS y.dn, textS y.shadow] [10]⟩ : Pr)]).length) cap337] [.slice a336 (([(⟨[105], Lib.join [y.href, y.uuid, dnS y.dn, textS y.shadow] [10]⟩ : Pr)]).length) cap337] (by kernel_rfl : lookAt _ _ _ _ = some ((Op.store 72 (Operand.tmp 3) (Operand.tmp 43)), none)) (by kernel_rfl) B350 (by kernel_rfl) (by kernel_rfl) (by kernel_rfl) (one_of_all (by kernel_rfl)) (by kernel_rfl) ?_
   intro w359 E360 hz361 B362
   have hE363 := hE339.and1 E360 (by omega)
   have := E360.size
   have hS364 := hS340.andIn E360 (in1 (by simp))
   have Q365 := Q342.step same E360 (notin1 (by omega)) (in1 (List.mem_append_right _ (List.mem_append_right _ (List.mem_append_left _ (List.mem_singleton.2 rfl)))))
   have Q366 := Q343.step same E360 (notin1 (by omega)) (in1 (List.mem_append_right _ (List.mem_append_right _ (List.mem_append_left _ (List.mem_singleton.2 rfl)))))
   have B367 := B344.eff1 E360 (by omega)
   have B368 := B345.eff1 E360 (by omega)
   have R369 := R347.step same E360 (in1 (List.mem_append_right _ (List.mem_append_right _ (List.mem_append_left _ (List.mem_singleton.2 rfl)))))
   have C370 := Kd.step (Kd.array 8 [] (Kd.slice Kd.str) rfl) C348 same E360 (in1 (List.mem_append_right _ (List.mem_append_right _ (List.mem_append_left _ (List.mem_singleton.2 rfl)))))
   have B371 := B349.eff1 E360 (by omega)
   have R372 := R351.step same E360 (in1 (List.mem_append_right _ (List.mem_append_right _ (List.mem_append_left _ (List.mem_singleton.2 rfl)))))
   have C373 := Kd.step (Kd.array 8 [] (Kd.slice Kd.str) rfl) C352 same E360 (in1 (List.mem_append_right _ (List.mem_append_right _ (List.mem_append_left _ (List.mem_singleton.2 rfl)))))
   have B374 := B353.eff1 E360 (by omega)
   have B375 := B354.eff1 E360 (by omega)
   have B376 := B356.eff1 E360 (by omega)
   have O377 := O333.step same E360 (in1 (List.mem_append_right _ (List.mem_append_left _ (List.mem_singleton.2 rfl))))
   have hM378 := hM358.eff E360
   refine ⟨hS364, ?_⟩
   refine D.done _ (by kernel_rfl) ?_
   have hsub379 : ∀ b, b ∈ ob (.slice a336 (([(⟨[105], Lib.join [y.href, y.uuid, dnS y.dn, textS y.shadow] [10]⟩ : Pr)]).length) cap337) ++ ([b115] ++ M) → b ∈ [b174] ++ (ob (.slice a336 (([(⟨[105], Lib.join [y.href, y.uuid, dnS y.dn, textS y.shadow] [10]⟩ : Pr)]).length) cap337) ++ ([b115] ++ M)) := (sDrop sSame)
   have hM380 : Mok (ob (.slice a336 (([(⟨[105], Lib.join [y.href, y.uuid, dnS y.dn, textS y.shadow] [10]⟩ : Pr)]).length) cap337) ++ ([b115] ++ M)) w359 := hM378.sub hsub379
   have F381 := Q365.sub hsub379
   have F382 := Q366.sub hsub379
   have nm383 : 1 ∉ ob (.slice a336 (([(⟨[105], Lib.join [y.href, y.uuid, dnS y.dn, textS y.shadow] [10]⟩ : Pr)]).length) cap337) ++ ([b115] ++ M) := fun h => nm346 (hsub379 _ h)
   have F384 := R369.sub hsub379
   have F385 := Kd.sub (Kd.array 8 [] (Kd.slice Kd.str) rfl) C370 hsub379
   have F386 := R372.sub hsub379
   have F387 := Kd.sub (Kd.array 8 [] (Kd.slice Kd.str) rfl) C373 hsub379
   have nm388 : b266 ∉ ob (.slice a336 (([(⟨[105], Lib.join [y.href, y.uuid, dnS y.dn, textS y.shadow] [10]⟩ : Pr)]).length) cap337) ++ ([b115] ++ M) := fun h => nm355 (hsub379 _ h)
   have nm389 : b308 ∉ ob (.slice a336 (([(⟨[105], Lib.join [y.href, y.uuid, dnS y.dn, textS y.shadow] [10]⟩ : Pr)]).length) cap337) ++ ([b115] ++ M) := fun h => nm357 (hsub379 _ h)
   have O390 := O377.sub (sDrop sSame)
   exact ⟨a336, cap337, [(⟨[105], Lib.join [y.href, y.uuid, dnS y.dn, textS y.shadow] [10]⟩ : Pr)], (by rfl), F381, F382, B367, B368, nm383, F384, F385, B371, B362, O390, hM380, hE363, (by omega), rfl, _, Holds.eq (l := [(0, .pointer (some ⟨pb, 0, none⟩)), (2, .slice none 0 0), (3, .pointer (some ⟨b115, 0, none⟩))]) ⟨by kernel_rfl, by kernel_rfl, by kernel_rfl, trivial⟩⟩
  ·refine L.newRow (fun b => .slice (some ⟨b, 0, none⟩) 4 4) [sv y.href, sv y.uuid, sv (dnS y.dn), sv (textS y.shadow)] 9 (by kernel_rfl : lookAt _ _ _ _ = some ((Op.buildSlice 30 4 #[(0, (Operand.tmp 34)), (1, (Operand.tmp 36)), (2, (Operand.tmp 37)), (3, (Operand.tmp 38))]), some 39)) (by intro c e; cases e) (fun w => by kernel_rfl) ?_
   intro b391 w392 hs393 hz394 E395 B396
   have nm397 := not_mem_of_ge (b := b391) hM264 (by omega)
   have hE398 := hE251.and0 E395
   have := E395.size
   have hS399 := hS250.and0 E395
   have Q400 := Q252.step same E395 (by simp) no0
   have Q401 := Q253.step same E395 (by simp) no0
   have B402 := B254.eff0 E395
   have B403 := B255.eff0 E395
   have R404 := R256.step same E395 no0
   have C405 := Kd.step (Kd.array 8 [] (Kd.slice Kd.str) rfl) C257 same E395 no0
   have B406 := B258.eff0 E395
   have B407 := B259.eff0 E395
   have O408 := O260.step same E395 no0
   have R409 := R261.step same E395 no0
   have C410 := Kd.step (Kd.array 8 [] (Kd.slice Kd.str) rfl) C262 same E395 no0
   have B411 := B263.eff0 E395
   have hM412 := hM264.eff E395
   refine ⟨hS399, ?_⟩
   refine D.all [0, 8] (by kernel_rfl) (by kernel_rfl) ⟨?_, ?_, trivial⟩
   ·refine L.val (.slice none 0 0) (by kernel_rfl : lookAt _ _ _ _ = some ((Op.load 72 (Operand.tmp 3)), some 32)) (by intro c e; cases e) (rx_load 0 (.slice none 0 0) (B407.cells) (by kernel_rfl) (by kernel_rfl)) ?_
    refine ⟨hS399, ?_⟩
    refine D.all [8] (by kernel_rfl) (by kernel_rfl) ⟨?_, trivial⟩
    refine L.call (f := 59) (by kernel_rfl : lookAt _ _ _ _ = some ((Op.call { callee := (Callee.value (Operand.func 59)), args := #[(Operand.tmp 39), (Operand.const (Value.string { data := #[10] }))], argTypes := #[30, 9] }), some 40)) e59 (by kernel_rfl) (join_ok b391 4 [y.href, y.uuid, dnS y.dn, textS y.shadow] [10] _ B396 (by simp only [List.length_cons, List.length_nil]; omega) (by simp only [List.length_cons, List.length_nil]; omega) (by simp only [Lib.join, List.intercalate, List.intersperse, List.flatten_cons, List.flatten_nil, List.length_append, List.length_cons, List.length_nil]; omega)) ?_
    rintro _ w414 E415 rfl
    have hE417 := hE398.and0 E415
    have := E415.size
    have hS418 := hS399.and0 E415
    have Q419 := Q400.step same E415 (by simp) no0
    have Q420 := Q401.step same E415 (by simp) no0
    have B421 := B402.eff0 E415
    have B422 := B403.eff0 E415
    have R423 := R404.step same E415 no0
    have C424 := Kd.step (Kd.array 8 [] (Kd.slice Kd.str) rfl) C405 same E415 no0
    have B425 := B406.eff0 E415
    have B426 := B407.eff0 E415
    have O427 := O408.step same E415 no0
    have R428 := R409.step same E415 no0
    have C429 := Kd.step (Kd.array 8 [] (Kd.slice Kd.str) rfl) C410 same E415 no0
    have B430 := B411.eff0 E415
    have B431 := B396.eff0 E415
    have hM432 := hM412.eff E415
    have : (Lib.join [y.href, y.uuid, dnS y.dn, textS y.shadow] [10]).length ≤ 1000000 := by simp only [Lib.join, List.intercalate, List.intersperse, List.flatten_cons, List.flatten_nil, List.length_append, List.length_cons, List.length_nil]; omega
    refine ⟨hS418, ?_⟩
    refine D.take 9 (.agg #[sv [105], sv (Lib.join [y.href, y.uuid, dnS y.dn, textS y.shadow] [10])]) (some 41) #[true, true, true, true, true, true, true, true, true, true, false, false, false] (by kernel_rfl) (by kernel_rfl) (by kernel_rfl) (fun _ _ _ _ h => LeaveP.put h (by kernel_rfl)) (.pure (n := 67) (by kernel_rfl)) hS418 ?_
    refine D.all [10] (by kernel_rfl) (by kernel_rfl) ⟨?_, trivial⟩
    refine L.newRow (fun b => .slice (some ⟨b, 0, none⟩) 1 1) [sv [105], sv (Lib.join [y.href, y.uuid, dnS y.dn, textS y.shadow] [10])] 77 (by kernel_rfl : lookAt _ _ _ _ = some ((Op.buildSlice 72 1 #[(0, (Operand.tmp 41))]), some 42)) (by intro c e; cases e) (fun w => by kernel_rfl) ?_
    intro b433 w434 hs435 hz436 E437 B438
    have nm439 := not_mem_of_ge (b := b433) hM432 (by omega)
    have hE440 := hE417.and0 E437
    have := E437.size
    have hS441 := hS418.and0 E437
    have Q442 := Q419.step same E437 (by simp) no0
    have Q443 := Q420.step same E437 (by simp) no0
    have B444 := B421.eff0 E437
    have B445 := B422.eff0 E437
    have R446 := R423.step same E437 no0
    have C447 := Kd.step (Kd.array 8 [] (Kd.slice Kd.str) rfl) C424 same E437 no0
    have B448 := B425.eff0 E437
    have B449 := B426.eff0 E437
    have O450 := O427.step same E437 no0
    have R451 := R428.step same E437 no0
    have C452 := Kd.step (Kd.array 8 [] (Kd.slice Kd.str) rfl) C429 same E437 no0
    have B453 := B430.eff0 E437
    have B454 := B431.eff0 E437
    have hM455 := hM432.eff E437
    refine ⟨hS441, ?_⟩
    refine D.all [11] (by kernel_rfl) (by kernel_rfl) ⟨?_, trivial⟩
    refine L.append (K := kPr) (e := 77) (base := w.heap.size) (bytes := 32) (M := [b174] ++ ([b115] ++ M)) (v := .slice none 0 0) (xs := []) (ys := [(⟨[105], Lib.join [y.href, y.uuid, dnS y.dn, textS y.shadow] [10]⟩ : Pr)]) (a := some ⟨b433, 0, none⟩) (cap := 1) (by kernel_rfl : lookAt _ _ _ _ = some ((Op.call { callee := (Callee.builtin Builtin.append), args := #[(Operand.tmp 32), (Operand.tmp 42)], argTypes := #[72, 72] }), some 43)) (by kernel_rfl) (by kernel_rfl) (by kernel_rfl) (by kernel_rfl) O450 (Sl.one (K := kPr) (x := (⟨[105], Lib.join [y.href, y.uuid, dnS y.dn, textS y.shadow] [10]⟩ : Pr)) B438 (fun h => nm439 ((sPull sSame) _ h)) (Kd.sub kPr (M := [b174] ++ (ob (.slice none 0 0) ++ ([b115] ++ M))) (w := w434) (cs := [sv [105], sv (Lib.join [y.href, y.uuid, dnS y.dn, textS y.shadow] [10])]) (x := (⟨[105], Lib.join [y.href, y.uuid, dnS y.dn, textS y.shadow] [10]⟩ : Pr)) ⟨[sv [105]], [sv (Lib.join [y.href, y.uuid, dnS y.dn, textS y.shadow] [10])], rfl, ⟨rfl, by (simp only [List.length_cons, List.length_nil, List.length_append, List.length_take, List.length_drop, List.length_map, List.length_replicate] <;> omega)⟩, ⟨rfl, by (simp only [List.length_cons, List.length_nil, List.length_append, List.length_take, List.length_drop, List.length_map, List.length_replicate] <;> omega)⟩⟩ (sPull sSame))) (hM455.sub (sKeep (sDrop sSame))) (by (simp only [List.length_cons, List.length_nil, List.length_append, List.length_take, List.length_drop, List.length_map, List.length_replicate] <;> omega)) (by omega) hE440.size ?_
    intro v456 w457 O458 E459 hat460
    obtain ⟨a461, cap462, rfl⟩ := O458.slice
    simp only [List.nil_append] at O458 hat460
    have hat463 := hatN hat460
    have hE464 := hE440.andMem E459 (memOwn O450 (Nat.le_refl _))
    have := E459.size
    have hS465 := hS441.andMem E459 mm265
    have mm466 := memN (base := w247.heap.size) mm265 hat463 (by omega)
    have Q467 := Q442.step (nKeep (nTurn hat463 (nKeep same))) E459 (fun h => absurd (O450.lt _ h).1 (by omega)) (fun _ h => List.mem_append_right _ (List.mem_append_left _ (h)))
    have Q468 := Q443.step (nKeep (nTurn hat463 (nKeep same))) E459 (fun h => absurd (O450.lt _ h).1 (by omega)) (fun _ h => List.mem_append_right _ (List.mem_append_left _ (h)))
    have B469 := B444.eff E459 (fun h => absurd (O450.lt _ h).1 (by omega))
    have nm471 := ninN nm185 B445.lt (nKeep (nTurn hat463 (nKeep same)))
    have B470 := B445.eff E459 (fun h => nm185 (List.mem_append_right _ (List.mem_append_left _ (h))))
    have R472 := R446.step (nKeep (nTurn hat463 (nKeep same))) E459 (fun _ h => List.mem_append_right _ (List.mem_append_left _ (h)))
    have C473 := Kd.step (Kd.array 8 [] (Kd.slice Kd.str) rfl) C447 (nKeep (nTurn hat463 (nKeep same))) E459 (fun _ h => List.mem_append_right _ (List.mem_append_left _ (h)))
    have B474 := B448.eff E459 (fun h => absurd (O450.lt _ h).1 (by omega))
    have B475 := B449.eff E459 (O450.apart (List.mem_append_right _ (List.mem_append_left _ (List.mem_singleton.2 rfl))))
    have R476 := R451.step (nKeep (nTurn hat463 (nKeep same))) E459 (fun _ h => List.mem_append_right _ (List.mem_append_left _ (h)))
    have C477 := Kd.step (Kd.array 8 [] (Kd.slice Kd.str) rfl) C452 (nKeep (nTurn hat463 (nKeep same))) E459 (fun _ h => List.mem_append_right _ (List.mem_append_left _ (h)))
    have B478 := B453.eff E459 (O450.apart (List.mem_append_left _ (List.mem_singleton.2 rfl)))
    have nm480 := ninN nm397 B454.lt (nKeep (nTurn hat463 (nKeep same)))
    have B479 := B454.eff E459 (fun h => nm397 (List.mem_append_right _ (List.mem_append_left _ (h))))
    have nm482 := ninN nm439 B438.lt (nKeep (nTurn hat463 (nKeep same)))
    have B481 := B438.eff E459 (fun h => nm439 (List.mem_append_right _ (List.mem_append_left _ (h))))
    have hM483 : Mok ([b174] ++ (ob (.slice a461 (([(⟨[105], Lib.join [y.href, y.uuid, dnS y.dn, textS y.shadow] [10]⟩ : Pr)]).length) cap462) ++ ([b115] ++ M))) w457 := hM455.step E459 (nKeep (nTurn (fun b hb => .inr ((fun b hb => (O458.lt b hb).2) b hb)) (nKeep same)))
    refine ⟨hS465, ?_⟩
    refine D.all [12] (by kernel_rfl) (by kernel_rfl) ⟨?_, trivial⟩
    refine L.store 0 [.slice a461 (([(⟨[105], Lib.join [y.href, y.uuid, dnS y.dn, textS y.shadow] [10]⟩ : Pr)]).length) cap462] [.slice a461 (([(⟨[105], Lib.join [y.href, y.uuid, dnS y.dn, textS y.shadow] [10]⟩ : Pr)]).length) cap462] (by kernel_rfl : lookAt _ _ _ _ = some ((Op.store 72 (Operand.tmp 3) (Operand.tmp 43)), none)) (by kernel_rfl) B475 (by kernel_rfl) (by kernel_rfl) (by kernel_rfl) (one_of_all (by kernel_rfl)) (by kernel_rfl) ?_
    intro w484 E485 hz486 B487
    have hE488 := hE464.and1 E485 (by omega)
    have := E485.size
    have hS489 := hS465.andIn E485 (in1 (by simp))
    have Q490 := Q467.step same E485 (notin1 (by omega)) (in1 (List.mem_append_right _ (List.mem_append_right _ (List.mem_append_left _ (List.mem_singleton.2 rfl)))))
    have Q491 := Q468.step same E485 (notin1 (by omega)) (in1 (List.mem_append_right _ (List.mem_append_right _ (List.mem_append_left _ (List.mem_singleton.2 rfl)))))
    have B492 := B469.eff1 E485 (by omega)
    have B493 := B470.eff1 E485 (by omega)
    have R494 := R472.step same E485 (in1 (List.mem_append_right _ (List.mem_append_right _ (List.mem_append_left _ (List.mem_singleton.2 rfl)))))
    have C495 := Kd.step (Kd.array 8 [] (Kd.slice Kd.str) rfl) C473 same E485 (in1 (List.mem_append_right _ (List.mem_append_right _ (List.mem_append_left _ (List.mem_singleton.2 rfl)))))
    have B496 := B474.eff1 E485 (by omega)
    have R497 := R476.step same E485 (in1 (List.mem_append_right _ (List.mem_append_right _ (List.mem_append_left _ (List.mem_singleton.2 rfl)))))
    have C498 := Kd.step (Kd.array 8 [] (Kd.slice Kd.str) rfl) C477 same E485 (in1 (List.mem_append_right _ (List.mem_append_right _ (List.mem_append_left _ (List.mem_singleton.2 rfl)))))
    have B499 := B478.eff1 E485 (by omega)
    have B500 := B479.eff1 E485 (by omega)
    have B501 := B481.eff1 E485 (by omega)
    have O502 := O458.step same E485 (in1 (List.mem_append_right _ (List.mem_append_left _ (List.mem_singleton.2 rfl))))
    have hM503 := hM483.eff E485
    refine ⟨hS489, ?_⟩
    refine D.done _ (by kernel_rfl) ?_
    have hsub504 : ∀ b, b ∈ ob (.slice a461 (([(⟨[105], Lib.join [y.href, y.uuid, dnS y.dn, textS y.shadow] [10]⟩ : Pr)]).length) cap462) ++ ([b115] ++ M) → b ∈ [b174] ++ (ob (.slice a461 (([(⟨[105], Lib.join [y.href, y.uuid, dnS y.dn, textS y.shadow] [10]⟩ : Pr)]).length) cap462) ++ ([b115] ++ M)) := (sDrop sSame)
    have hM505 : Mok (ob (.slice a461 (([(⟨[105], Lib.join [y.href, y.uuid, dnS y.dn, textS y.shadow] [10]⟩ : Pr)]).length) cap462) ++ ([b115] ++ M)) w484 := hM503.sub hsub504
    have F506 := Q490.sub hsub504
    have F507 := Q491.sub hsub504
    have nm508 : 1 ∉ ob (.slice a461 (([(⟨[105], Lib.join [y.href, y.uuid, dnS y.dn, textS y.shadow] [10]⟩ : Pr)]).length) cap462) ++ ([b115] ++ M) := fun h => nm471 (hsub504 _ h)
    have F509 := R494.sub hsub504
    have F510 := Kd.sub (Kd.array 8 [] (Kd.slice Kd.str) rfl) C495 hsub504
    have F511 := R497.sub hsub504
    have F512 := Kd.sub (Kd.array 8 [] (Kd.slice Kd.str) rfl) C498 hsub504
    have nm513 : b391 ∉ ob (.slice a461 (([(⟨[105], Lib.join [y.href, y.uuid, dnS y.dn, textS y.shadow] [10]⟩ : Pr)]).length) cap462) ++ ([b115] ++ M) := fun h => nm480 (hsub504 _ h)
    have nm514 : b433 ∉ ob (.slice a461 (([(⟨[105], Lib.join [y.href, y.uuid, dnS y.dn, textS y.shadow] [10]⟩ : Pr)]).length) cap462) ++ ([b115] ++ M) := fun h => nm482 (hsub504 _ h)
    have O515 := O502.sub (sDrop sSame)
    exact ⟨a461, cap462, [(⟨[105], Lib.join [y.href, y.uuid, dnS y.dn, textS y.shadow] [10]⟩ : Pr)], (by rfl), F506, F507, B492, B493, nm508, F509, F510, B496, B487, O515, hM505, hE488, (by omega), rfl, _, Holds.eq (l := [(0, .pointer (some ⟨pb, 0, none⟩)), (2, .slice none 0 0), (3, .pointer (some ⟨b115, 0, none⟩))]) ⟨by kernel_rfl, by kernel_rfl, by kernel_rfl, trivial⟩⟩
   ·refine L.call (f := 59) (by kernel_rfl : lookAt _ _ _ _ = some ((Op.call { callee := (Callee.value (Operand.func 59)), args := #[(Operand.tmp 39), (Operand.const (Value.string { data := #[10] }))], argTypes := #[30, 9] }), some 40)) e59 (by kernel_rfl) (join_ok b391 4 [y.href, y.uuid, dnS y.dn, textS y.shadow] [10] _ B396 (by simp only [List.length_cons, List.length_nil]; omega) (by simp only [List.length_cons, List.length_nil]; omega) (by simp only [Lib.join, List.intercalate, List.intersperse, List.flatten_cons, List.flatten_nil, List.length_append, List.length_cons, List.length_nil]; omega)) ?_
    rintro _ w517 E518 rfl
    have hE520 := hE398.and0 E518
    have := E518.size
    have hS521 := hS399.and0 E518
    have Q522 := Q400.step same E518 (by simp) no0
    have Q523 := Q401.step same E518 (by simp) no0
    have B524 := B402.eff0 E518
    have B525 := B403.eff0 E518
    have R526 := R404.step same E518 no0
    have C527 := Kd.step (Kd.array 8 [] (Kd.slice Kd.str) rfl) C405 same E518 no0
    have B528 := B406.eff0 E518
    have B529 := B407.eff0 E518
    have O530 := O408.step same E518 no0
    have R531 := R409.step same E518 no0
    have C532 := Kd.step (Kd.array 8 [] (Kd.slice Kd.str) rfl) C410 same E518 no0
    have B533 := B411.eff0 E518
    have B534 := B396.eff0 E518
    have hM535 := hM412.eff E518
    have : (Lib.join [y.href, y.uuid, dnS y.dn, textS y.shadow] [10]).length ≤ 1000000 := by simp only [Lib.join, List.intercalate, List.intersperse, List.flatten_cons, List.flatten_nil, List.length_append, List.length_cons, List.length_nil]; omega
    refine ⟨hS521, ?_⟩
    refine D.take 9 (.agg #[sv [105], sv (Lib.join [y.href, y.uuid, dnS y.dn, textS y.shadow] [10])]) (some 41) #[false, true, true, true, true, true, true, true, true, true, false, false, false] (by kernel_rfl) (by kernel_rfl) (by kernel_rfl) (fun _ _ _ _ h => LeaveP.put h (by kernel_rfl)) (.pure (n := 67) (by kernel_rfl)) hS521 ?_
    refine D.all [0, 10] (by kernel_rfl) (by kernel_rfl) ⟨?_, ?_, trivial⟩
    ·refine L.val (.slice none 0 0) (by kernel_rfl : lookAt _ _ _ _ = some ((Op.load 72 (Operand.tmp 3)), some 32)) (by intro c e; cases e) (rx_load 0 (.slice none 0 0) (B529.cells) (by kernel_rfl) (by kernel_rfl)) ?_
     refine ⟨hS521, ?_⟩
     refine D.all [10] (by kernel_rfl) (by kernel_rfl) ⟨?_, trivial⟩
     refine L.newRow (fun b => .slice (some ⟨b, 0, none⟩) 1 1) [sv [105], sv (Lib.join [y.href, y.uuid, dnS y.dn, textS y.shadow] [10])] 77 (by kernel_rfl : lookAt _ _ _ _ = some ((Op.buildSlice 72 1 #[(0, (Operand.tmp 41))]), some 42)) (by intro c e; cases e) (fun w => by kernel_rfl) ?_
     intro b536 w537 hs538 hz539 E540 B541
     have nm542 := not_mem_of_ge (b := b536) hM535 (by omega)
     have hE543 := hE520.and0 E540
     have := E540.size
     have hS544 := hS521.and0 E540
     have Q545 := Q522.step same E540 (by simp) no0
     have Q546 := Q523.step same E540 (by simp) no0
     have B547 := B524.eff0 E540
     have B548 := B525.eff0 E540
     have R549 := R526.step same E540 no0
     have C550 := Kd.step (Kd.array 8 [] (Kd.slice Kd.str) rfl) C527 same E540 no0
     have B551 := B528.eff0 E540
     have B552 := B529.eff0 E540
     have O553 := O530.step same E540 no0
     have R554 := R531.step same E540 no0
     have C555 := Kd.step (Kd.array 8 [] (Kd.slice Kd.str) rfl) C532 same E540 no0
     have B556 := B533.eff0 E540
     have B557 := B534.eff0 E540
     have hM558 := hM535.eff E540
     refine ⟨hS544, ?_⟩
     refine D.all [11] (by kernel_rfl) (by kernel_rfl) ⟨?_, trivial⟩
     refine L.append (K := kPr) (e := 77) (base := w.heap.size) (bytes := 32) (M := [b174] ++ ([b115] ++ M)) (v := .slice none 0 0) (xs := []) (ys := [(⟨[105], Lib.join [y.href, y.uuid, dnS y.dn, textS y.shadow] [10]⟩ : Pr)]) (a := some ⟨b536, 0, none⟩) (cap := 1) (by kernel_rfl : lookAt _ _ _ _ = some ((Op.call { callee := (Callee.builtin Builtin.append), args := #[(Operand.tmp 32), (Operand.tmp 42)], argTypes := #[72, 72] }), some 43)) (by kernel_rfl) (by kernel_rfl) (by kernel_rfl) (by kernel_rfl) O553 (Sl.one (K := kPr) (x := (⟨[105], Lib.join [y.href, y.uuid, dnS y.dn, textS y.shadow] [10]⟩ : Pr)) B541 (fun h => nm542 ((sPull sSame) _ h)) (Kd.sub kPr (M := [b174] ++ (ob (.slice none 0 0) ++ ([b115] ++ M))) (w := w537) (cs := [sv [105], sv (Lib.join [y.href, y.uuid, dnS y.dn, textS y.shadow] [10])]) (x := (⟨[105], Lib.join [y.href, y.uuid, dnS y.dn, textS y.shadow] [10]⟩ : Pr)) ⟨[sv [105]], [sv (Lib.join [y.href, y.uuid, dnS y.dn, textS y.shadow] [10])], rfl, ⟨rfl, by (simp only [List.length_cons, List.length_nil, List.length_append, List.length_take, List.length_drop, List.length_map, List.length_replicate] <;> omega)⟩, ⟨rfl, by (simp only [List.length_cons, List.length_nil, List.length_append, List.length_take, List.length_drop, List.length_map, List.length_replicate] <;> omega)⟩⟩ (sPull sSame))) (hM558.sub (sKeep (sDrop sSame))) (by (simp only [List.length_cons, List.length_nil, List.length_append, List.length_take, List.length_drop, List.length_map, List.length_replicate] <;> omega)) (by omega) hE543.size ?_
     intro v559 w560 O561 E562 hat563
     obtain ⟨a564, cap565, rfl⟩ := O561.slice
     simp only [List.nil_append] at O561 hat563
     have hat566 := hatN hat563
     have hE567 := hE543.andMem E562 (memOwn O553 (Nat.le_refl _))
     have := E562.size
     have hS568 := hS544.andMem E562 mm265
     have mm569 := memN (base := w247.heap.size) mm265 hat566 (by omega)
     have Q570 := Q545.step (nKeep (nTurn hat566 (nKeep same))) E562 (fun h => absurd (O553.lt _ h).1 (by omega)) (fun _ h => List.mem_append_right _ (List.mem_append_left _ (h)))
     have Q571 := Q546.step (nKeep (nTurn hat566 (nKeep same))) E562 (fun h => absurd (O553.lt _ h).1 (by omega)) (fun _ h => List.mem_append_right _ (List.mem_append_left _ (h)))
     have B572 := B547.eff E562 (fun h => absurd (O553.lt _ h).1 (by omega))
     have nm574 := ninN nm185 B548.lt (nKeep (nTurn hat566 (nKeep same)))
     have B573 := B548.eff E562 (fun h => nm185 (List.mem_append_right _ (List.mem_append_left _ (h))))
     have R575 := R549.step (nKeep (nTurn hat566 (nKeep same))) E562 (fun _ h => List.mem_append_right _ (List.mem_append_left _ (h)))
     have C576 := Kd.step (Kd.array 8 [] (Kd.slice Kd.str) rfl) C550 (nKeep (nTurn hat566 (nKeep same))) E562 (fun _ h => List.mem_append_right _ (List.mem_append_left _ (h)))
     have B577 := B551.eff E562 (fun h => absurd (O553.lt _ h).1 (by omega))
     have B578 := B552.eff E562 (O553.apart (List.mem_append_right _ (List.mem_append_left _ (List.mem_singleton.2 rfl))))
     have R579 := R554.step (nKeep (nTurn hat566 (nKeep same))) E562 (fun _ h => List.mem_append_right _ (List.mem_append_left _ (h)))
     have C580 := Kd.step (Kd.array 8 [] (Kd.slice Kd.str) rfl) C555 (nKeep (nTurn hat566 (nKeep same))) E562 (fun _ h => List.mem_append_right _ (List.mem_append_left _ (h)))
     have B581 := B556.eff E562 (O553.apart (List.mem_append_left _ (List.mem_singleton.2 rfl)))
     have nm583 := ninN nm397 B557.lt (nKeep (nTurn hat566 (nKeep same)))
     have B582 := B557.eff E562 (fun h => nm397 (List.mem_append_right _ (List.mem_append_left _ (h))))
     have nm585 := ninN nm542 B541.lt (nKeep (nTurn hat566 (nKeep same)))
     have B584 := B541.eff E562 (fun h => nm542 (List.mem_append_right _ (List.mem_append_left _ (h))))
     have hM586 : Mok ([b174] ++ (ob (.slice a564 (([(⟨[105], Lib.join [y.href, y.uuid, dnS y.dn, textS y.shadow] [10]⟩ : Pr)]).length) cap565) ++ ([b115] ++ M))) w560 := hM558.step E562 (nKeep (nTurn (fun b hb => .inr ((fun b hb => (O561.lt b hb).2) b hb)) (nKeep same)))
     refine ⟨hS568, ?_⟩
     refine D.all [12] (by kernel_rfl) (by kernel_rfl) ⟨?_, trivial⟩
     refine L.store 0 [.slice a564 (([(⟨[105], Lib.join [y.href, y.uuid, dnS y.dn, textS y.shadow] [10]⟩ : Pr)]).length) cap565] [.slice a564 (([(⟨[105], Lib.join [y.href, y.uuid, dnS y.dn, textS y.shadow] [10]⟩ : Pr)]).length) cap565] (by kernel_rfl : lookAt _ _ _ _ = some ((Op.store 72 (Operand.tmp 3) (Operand.tmp 43)), none)) (by kernel_rfl) B578 (by kernel_rfl) (by kernel_rfl) (by kernel_rfl) (one_of_all (by kernel_rfl)) (by kernel_rfl) ?_
     intro w587 E588 hz589 B590
     have hE591 := hE567.and1 E588 (by omega)
     have := E588.size
     have hS592 := hS568.andIn E588 (in1 (by simp))
     have Q593 := Q570.step same E588 (notin1 (by omega)) (in1 (List.mem_append_right _ (List.mem_append_right _ (List.mem_append_left _ (List.mem_singleton.2 rfl)))))
     have Q594 := Q571.step same E588 (notin1 (by omega)) (in1 (List.mem_append_right _ (List.mem_append_right _ (List.mem_append_left _ (List.mem_singleton.2 rfl)))))
     have B595 := B572.eff1 E588 (by omega)
     have B596 := B573.eff1 E588 (by omega)
     have R597 := R575.step same E588 (in1 (List.mem_append_right _ (List.mem_append_right _ (List.mem_append_left _ (List.mem_singleton.2 rfl)))))
     have C598 := Kd.step (Kd.array 8 [] (Kd.slice Kd.str) rfl) C576 same E588 (in1 (List.mem_append_right _ (List.mem_append_right _ (List.mem_append_left _ (List.mem_singleton.2 rfl)))))
     have B599 := B577.eff1 E588 (by omega)
     have R600 := R579.step same E588 (in1 (List.mem_append_right _ (List.mem_append_right _ (List.mem_append_left _ (List.mem_singleton.2 rfl)))))
     have C601 := Kd.step (Kd.array 8 [] (Kd.slice Kd.str) rfl) C580 same E588 (in1 (List.mem_append_right _ (List.mem_append_right _ (List.mem_append_left _ (List.mem_singleton.2 rfl)))))
     have B602 := B581.eff1 E588 (by omega)
     have B603 := B582.eff1 E588 (by omega)
     have B604 := B584.eff1 E588 (by omega)
     have O605 := O561.step same E588 (in1 (List.mem_append_right _ (List.mem_append_left _ (List.mem_singleton.2 rfl))))
     have hM606 := hM586.eff E588
     refine ⟨hS592, ?_⟩
     refine D.done _ (by kernel_rfl) ?_
     have hsub607 : ∀ b, b ∈ ob (.slice a564 (([(⟨[105], Lib.join [y.href, y.uuid, dnS y.dn, textS y.shadow] [10]⟩ : Pr)]).length) cap565) ++ ([b115] ++ M) → b ∈ [b174] ++ (ob (.slice a564 (([(⟨[105], Lib.join [y.href, y.uuid, dnS y.dn, textS y.shadow] [10]⟩ : Pr)]).length) cap565) ++ ([b115] ++ M)) := (sDrop sSame)
     have hM608 : Mok (ob (.slice a564 (([(⟨[105], Lib.join [y.href, y.uuid, dnS y.dn, textS y.shadow] [10]⟩ : Pr)]).length) cap565) ++ ([b115] ++ M)) w587 := hM606.sub hsub607
     have F609 := Q593.sub hsub607
     have F610 := Q594.sub hsub607
     have nm611 : 1 ∉ ob (.slice a564 (([(⟨[105], Lib.join [y.href, y.uuid, dnS y.dn, textS y.shadow] [10]⟩ : Pr)]).length) cap565) ++ ([b115] ++ M) := fun h => nm574 (hsub607 _ h)
     have F612 := R597.sub hsub607
     have F613 := Kd.sub (Kd.array 8 [] (Kd.slice Kd.str) rfl) C598 hsub607
     have F614 := R600.sub hsub607
     have F615 := Kd.sub (Kd.array 8 [] (Kd.slice Kd.str) rfl) C601 hsub607
     have nm616 : b391 ∉ ob (.slice a564 (([(⟨[105], Lib.join [y.href, y.uuid, dnS y.dn, textS y.shadow] [10]⟩ : Pr)]).length) cap565) ++ ([b115] ++ M) := fun h => nm583 (hsub607 _ h)
     have nm617 : b536 ∉ ob (.slice a564 (([(⟨[105], Lib.join [y.href, y.uuid, dnS y.dn, textS y.shadow] [10]⟩ : Pr)]).length) cap565) ++ ([b115] ++ M) := fun h => nm585 (hsub607 _ h)
     have O618 := O605.sub (sDrop sSame)
     exact ⟨a564, cap565, [(⟨[105], Lib.join [y.href, y.uuid, dnS y.dn, textS y.shadow] [10]⟩ : Pr)], (by rfl), F609, F610, B595, B596, nm611, F612, F613, B599, B590, O618, hM608, hE591, (by omega), rfl, _, Holds.eq (l := [(0, .pointer (some ⟨pb, 0, none⟩)), (2, .slice none 0 0), (3, .pointer (some ⟨b115, 0, none⟩))]) ⟨by kernel_rfl, by kernel_rfl, by kernel_rfl, trivial⟩⟩
    ·refine L.newRow (fun b => .slice (some ⟨b, 0, none⟩) 1 1) [sv [105], sv (Lib.join [y.href, y.uuid, dnS y.dn, textS y.shadow] [10])] 77 (by kernel_rfl : lookAt _ _ _ _ = some ((Op.buildSlice 72 1 #[(0, (Operand.tmp 41))]), some 42)) (by intro c e; cases e) (fun w => by kernel_rfl) ?_
     intro b619 w620 hs621 hz622 E623 B624
     have nm625 := not_mem_of_ge (b := b619) hM535 (by omega)
     have hE626 := hE520.and0 E623
     have := E623.size
     have hS627 := hS521.and0 E623
     have Q628 := Q522.step same E623 (by simp) no0
     have Q629 := Q523.step same E623 (by simp) no0
     have B630 := B524.eff0 E623
     have B631 := B525.eff0 E623
     have R632 := R526.step same E623 no0
     have C633 := Kd.step (Kd.array 8 [] (Kd.slice Kd.str) rfl) C527 same E623 no0
     have B634 := B528.eff0 E623
     have B635 := B529.eff0 E623
     have O636 := O530.step same E623 no0
     have R637 := R531.step same E623 no0
     have C638 := Kd.step (Kd.array 8 [] (Kd.slice Kd.str) rfl) C532 same E623 no0
     have B639 := B533.eff0 E623
     have B640 := B534.eff0 E623
     have hM641 := hM535.eff E623
     refine ⟨hS627, ?_⟩
     refine D.all [0] (by kernel_rfl) (by kernel_rfl) ⟨?_, trivial⟩
     refine L.val (.slice none 0 0) (by kernel_rfl : lookAt _ _ _ _ = some ((Op.load 72 (Operand.tmp 3)), some 32)) (by intro c e; cases e) (rx_load 0 (.slice none 0 0) (B635.cells) (by kernel_rfl) (by kernel_rfl)) ?_
     refine ⟨hS627, ?_⟩
     refine D.all [11] (by kernel_rfl) (by kernel_rfl) ⟨?_, trivial⟩
     refine L.append (K := kPr) (e := 77) (base := w.heap.size) (bytes := 32) (M := [b174] ++ ([b115] ++ M)) (v := .slice none 0 0) (xs := []) (ys := [(⟨[105], Lib.join [y.href, y.uuid, dnS y.dn, textS y.shadow] [10]⟩ : Pr)]) (a := some ⟨b619, 0, none⟩) (cap := 1) (by kernel_rfl : lookAt _ _ _ _ = some ((Op.call { callee := (Callee.builtin Builtin.append), args := #[(Operand.tmp 32), (Operand.tmp 42)], argTypes := #[72, 72] }), some 43)) (by kernel_rfl) (by kernel_rfl) (by kernel_rfl) (by kernel_rfl) O636 (Sl.one (K := kPr) (x := (⟨[105], Lib.join [y.href, y.uuid, dnS y.dn, textS y.shadow] [10]⟩ : Pr)) B624 (fun h => nm625 ((sPull sSame) _ h)) (Kd.sub kPr (M := [b174] ++ (ob (.slice none 0 0) ++ ([b115] ++ M))) (w := w620) (cs := [sv [105], sv (Lib.join [y.href, y.uuid, dnS y.dn, textS y.shadow] [10])]) (x := (⟨[105], Lib.join [y.href, y.uuid, dnS y.dn, textS y.shadow] [10]⟩ : Pr)) ⟨[sv [105]], [sv (Lib.join [y.href, y.uuid, dnS y.dn, textS y.shadow] [10])], rfl, ⟨rfl, by (simp only [List.length_cons, List.length_nil, List.length_append, List.length_take, List.length_drop, List.length_map, List.length_replicate] <;> omega)⟩, ⟨rfl, by (simp only [List.length_cons, List.length_nil, List.length_append, List.length_take, List.length_drop, List.length_map, List.length_replicate] <;> omega)⟩⟩ (sPull sSame))) (hM641.sub (sKeep (sDrop sSame))) (by (simp only [List.length_cons, List.length_nil, List.length_append, List.length_take, List.length_drop, List.length_map, List.length_replicate] <;> omega)) (by omega) hE626.size ?_
     intro v642 w643 O644 E645 hat646
     obtain ⟨a647, cap648, rfl⟩ := O644.slice
     simp only [List.nil_append] at O644 hat646
     have hat649 := hatN hat646
     have hE650 := hE626.andMem E645 (memOwn O636 (Nat.le_refl _))
     have := E645.size
     have hS651 := hS627.andMem E645 mm265
     have mm652 := memN (base := w247.heap.size) mm265 hat649 (by omega)
     have Q653 := Q628.step (nKeep (nTurn hat649 (nKeep same))) E645 (fun h => absurd (O636.lt _ h).1 (by omega)) (fun _ h => List.mem_append_right _ (List.mem_append_left _ (h)))
     have Q654 := Q629.step (nKeep (nTurn hat649 (nKeep same))) E645 (fun h => absurd (O636.lt _ h).1 (by omega)) (fun _ h => List.mem_append_right _ (List.mem_append_left _ (h)))
     have B655 := B630.eff E645 (fun h => absurd (O636.lt _ h).1 (by omega))
     have nm657 := ninN nm185 B631.lt (nKeep (nTurn hat649 (nKeep same)))
     have B656 := B631.eff E645 (fun h => nm185 (List.mem_append_right _ (List.mem_append_left _ (h))))
     have R658 := R632.step (nKeep (nTurn hat649 (nKeep same))) E645 (fun _ h => List.mem_append_right _ (List.mem_append_left _ (h)))
     have C659 := Kd.step (Kd.array 8 [] (Kd.slice Kd.str) rfl) C633 (nKeep (nTurn hat649 (nKeep same))) E645 (fun _ h => List.mem_append_right _ (List.mem_append_left _ (h)))
     have B660 := B634.eff E645 (fun h => absurd (O636.lt _ h).1 (by omega))
     have B661 := B635.eff E645 (O636.apart (List.mem_append_right _ (List.mem_append_left _ (List.mem_singleton.2 rfl))))
     have R662 := R637.step (nKeep (nTurn hat649 (nKeep same))) E645 (fun _ h => List.mem_append_right _ (List.mem_append_left _ (h)))
     have C663 := Kd.step (Kd.array 8 [] (Kd.slice Kd.str) rfl) C638 (nKeep (nTurn hat649 (nKeep same))) E645 (fun _ h => List.mem_append_right _ (List.mem_append_left _ (h)))
     have B664 := B639.eff E645 (O636.apart (List.mem_append_left _ (List.mem_singleton.2 rfl)))
     have nm666 := ninN nm397 B640.lt (nKeep (nTurn hat649 (nKeep same)))
     have B665 := B640.eff E645 (fun h => nm397 (List.mem_append_right _ (List.mem_append_left _ (h))))
     have nm668 := ninN nm625 B624.lt (nKeep (nTurn hat649 (nKeep same)))
     have B667 := B624.eff E645 (fun h => nm625 (List.mem_append_right _ (List.mem_append_left _ (h))))
     have hM669 : Mok ([b174] ++ (ob (.slice a647 (([(⟨[105], Lib.join [y.href, y.uuid, dnS y.dn, textS y.shadow] [10]⟩ : Pr)]).length) cap648) ++ ([b115] ++ M))) w643 := hM641.step E645 (nKeep (nTurn (fun b hb => .inr ((fun b hb => (O644.lt b hb).2) b hb)) (nKeep same)))
     refine ⟨hS651, ?_⟩
     refine D.all [12] (by kernel_rfl) (by kernel_rfl) ⟨?_, trivial⟩
     refine L.store 0 [.slice a647 (([(⟨[105], Lib.join [y.href, y.uuid, dnS y.dn, textS y.shadow] [10]⟩ : Pr)]).length) cap648] [.slice a647 (([(⟨[105], Lib.join [y.href, y.uuid, dnS y.dn, textS y.shadow] [10]⟩ : Pr)]).length) cap648] (by kernel_rfl : lookAt _ _ _ _ = some ((Op.store 72 (Operand.tmp 3) (Operand.tmp 43)), none)) (by kernel_rfl) B661 (by kernel_rfl) (by kernel_rfl) (by kernel_rfl) (one_of_all (by kernel_rfl)) (by kernel_rfl) ?_
     intro w670 E671 hz672 B673
     have hE674 := hE650.and1 E671 (by omega)
     have := E671.size
     have hS675 := hS651.andIn E671 (in1 (by simp))
     have Q676 := Q653.step same E671 (notin1 (by omega)) (in1 (List.mem_append_right _ (List.mem_append_right _ (List.mem_append_left _ (List.mem_singleton.2 rfl)))))
     have Q677 := Q654.step same E671 (notin1 (by omega)) (in1 (List.mem_append_right _ (List.mem_append_right _ (List.mem_append_left _ (List.mem_singleton.2 rfl)))))
     have B678 := B655.eff1 E671 (by omega)
     have B679 := B656.eff1 E671 (by omega)
     have R680 := R658.step same E671 (in1 (List.mem_append_right _ (List.mem_append_right _ (List.mem_append_left _ (List.mem_singleton.2 rfl)))))
     have C681 := Kd.step (Kd.array 8 [] (Kd.slice Kd.str) rfl) C659 same E671 (in1 (List.mem_append_right _ (List.mem_append_right _ (List.mem_append_left _ (List.mem_singleton.2 rfl)))))
     have B682 := B660.eff1 E671 (by omega)
     have R683 := R662.step same E671 (in1 (List.mem_append_right _ (List.mem_append_right _ (List.mem_append_left _ (List.mem_singleton.2 rfl)))))
     have C684 := Kd.step (Kd.array 8 [] (Kd.slice Kd.str) rfl) C663 same E671 (in1 (List.mem_append_right _ (List.mem_append_right _ (List.mem_append_left _ (List.mem_singleton.2 rfl)))))
     have B685 := B664.eff1 E671 (by omega)
     have B686 := B665.eff1 E671 (by omega)
     have B687 := B667.eff1 E671 (by omega)
     have O688 := O644.step same E671 (in1 (List.mem_append_right _ (List.mem_append_left _ (List.mem_singleton.2 rfl))))
     have hM689 := hM669.eff E671
     refine ⟨hS675, ?_⟩
     refine D.done _ (by kernel_rfl) ?_
     have hsub690 : ∀ b, b ∈ ob (.slice a647 (([(⟨[105], Lib.join [y.href, y.uuid, dnS y.dn, textS y.shadow] [10]⟩ : Pr)]).length) cap648) ++ ([b115] ++ M) → b ∈ [b174] ++ (ob (.slice a647 (([(⟨[105], Lib.join [y.href, y.uuid, dnS y.dn, textS y.shadow] [10]⟩ : Pr)]).length) cap648) ++ ([b115] ++ M)) := (sDrop sSame)
     have hM691 : Mok (ob (.slice a647 (([(⟨[105], Lib.join [y.href, y.uuid, dnS y.dn, textS y.shadow] [10]⟩ : Pr)]).length) cap648) ++ ([b115] ++ M)) w670 := hM689.sub hsub690
     have F692 := Q676.sub hsub690
     have F693 := Q677.sub hsub690
     have nm694 : 1 ∉ ob (.slice a647 (([(⟨[105], Lib.join [y.href, y.uuid, dnS y.dn, textS y.shadow] [10]⟩ : Pr)]).length) cap648) ++ ([b115] ++ M) := fun h => nm657 (hsub690 _ h)
     have F695 := R680.sub hsub690
     have F696 := Kd.sub (Kd.array 8 [] (Kd.slice Kd.str) rfl) C681 hsub690
     have F697 := R683.sub hsub690
     have F698 := Kd.sub (Kd.array 8 [] (Kd.slice Kd.str) rfl) C684 hsub690
     have nm699 : b391 ∉ ob (.slice a647 (([(⟨[105], Lib.join [y.href, y.uuid, dnS y.dn, textS y.shadow] [10]⟩ : Pr)]).length) cap648) ++ ([b115] ++ M) := fun h => nm666 (hsub690 _ h)
     have nm700 : b619 ∉ ob (.slice a647 (([(⟨[105], Lib.join [y.href, y.uuid, dnS y.dn, textS y.shadow] [10]⟩ : Pr)]).length) cap648) ++ ([b115] ++ M) := fun h => nm668 (hsub690 _ h)
     have O701 := O688.sub (sDrop sSame)
     exact ⟨a647, cap648, [(⟨[105], Lib.join [y.href, y.uuid, dnS y.dn, textS y.shadow] [10]⟩ : Pr)], (by rfl), F692, F693, B678, B679, nm694, F695, F696, B682, B673, O701, hM691, hE674, (by omega), rfl, _, Holds.eq (l := [(0, .pointer (some ⟨pb, 0, none⟩)), (2, .slice none 0 0), (3, .pointer (some ⟨b115, 0, none⟩))]) ⟨by kernel_rfl, by kernel_rfl, by kernel_rfl, trivial⟩⟩
 rintro σ' ds' w140 ⟨a138, cap139, o1, ho1, F703, F704, F705, F706, nm707, F708, F709, F710, F711, O712, hM713, hE714, hz715, rfl, u142, rfl⟩
 refine S.seq (x := c31b_n17) (y := c31b_n26) (by kernel_rfl) ?_
 refine S.seq (x := c31b_n18) (y := c31b_n19) (by kernel_rfl) ?_
 refine S.reg (ops := o31b_n18) (js := [0, 1]) (by kernel_rfl) (by kernel_rfl) ?_
 refine L.runU [0] [1] [(44, .pointer (some ⟨pb, 0, none⟩))] (by kernel_rfl) (by kernel_rfl) ?_
 refine L.call (f := 24) (by kernel_rfl : lookAt _ _ _ _ = some ((Op.call { callee := (Callee.value (Operand.func 24)), args := #[(Operand.tmp 44)], argTypes := #[25] }), some 45)) e24 (by kernel_rfl) (all24_ok (ob (.slice a138 o1.length cap139) ++ ([b115] ++ M)) pb b1 b2 l1 l2 (.pointer (some ⟨b3, 0, none⟩)) _ F705 hp1 hp2 hM713 F703 F704 (by simp [*]) (by simp [*]) hne hs hl hkeys) ?_
 rintro _ w724 E725 ⟨b716, a717, cap718, rfl, B719, R720, hb721⟩
 have nm722 := not_mem_of_ge (b := b716) hM713 hb721
 have hE727 := hE714.and0 E725
 have := E725.size
 have Q728 := F703.step same E725 (by simp) no0
 have Q729 := F704.step same E725 (by simp) no0
 have B730 := F705.eff0 E725
 have B731 := F706.eff0 E725
 have R732 := F708.step same E725 no0
 have C733 := Kd.step (Kd.array 8 [] (Kd.slice Kd.str) rfl) F709 same E725 no0
 have B734 := F710.eff0 E725
 have B735 := F711.eff0 E725
 have O736 := O712.step same E725 no0
 have hM737 := hM713.eff E725
 have := B719.lt
 refine L.done ?_
 show S _ _ _ c31b_n19 _ _ _ _
 refine S.block (id := 0) (x := c31b_n20) (by kernel_rfl) ?_
 have := Q728.lt
 have := Q729.lt
 have := B730.lt
 have := B731.lt
 have := B734.lt
 have := B735.lt
 have := B719.lt
 obtain ⟨D738, hD740⟩ : ∃ D, w724.heap.size = D := ⟨_, rfl⟩
 obtain ⟨l739, hl741⟩ : ∃ l, D738 + 1 = l := ⟨_, rfl⟩
 refine S.range (α := Nat × Pg) (g := (Operand.tmp 45)) (ps := #[46, 47]) (assign := c31b_n21) (body := c31b_n22) (gf := 49) (lb := #[.pointer (some ⟨b716, 0, none⟩)]) false D738 l739 (encPg a717 (allF l1)) (nxL (allF l1)) (finL (allF l1)) (fun N m pre w' => ∃ (a742 : Option Addr) (cap743 : Nat) (out : List Pr), m ≤ w'.heap.size ∧ (∀ b, b ∈ [l739] ++ ([D738] ++ (ob (.slice a742 out.length cap743) ++ ([b115] ++ M))) → b < m) ∧ l739 < w'.heap.size ∧ (out = [rowI y] ++ ((allF l1).take pre.length).map rowP) ∧ (out.length ≤ pre.length + 1) ∧ MapIs Key.str kPg true ([l739] ++ ([D738] ++ (ob (.slice a742 out.length cap743) ++ ([b115] ++ M)))) w' b1 l1 ∧ MapIs Key.str Kd.str false ([l739] ++ ([D738] ++ (ob (.slice a742 out.length cap743) ++ ([b115] ++ M)))) w' b2 l2 ∧ Blk w' pb ([.map (some b1), .map (some b2), .pointer (some ⟨b3, 0, none⟩)]) 59 ∧ TabP w' ∧ 1 ∉ [l739] ++ ([D738] ++ (ob (.slice a742 out.length cap743) ++ ([b115] ++ M))) ∧ Sl kRd ([l739] ++ ([D738] ++ (ob (.slice a742 out.length cap743) ++ ([b115] ++ M)))) w' a103 y.dn ∧ (Kd.array 8 [] (Kd.slice Kd.str) rfl).R ([l739] ++ ([D738] ++ (ob (.slice a742 out.length cap743) ++ ([b115] ++ M)))) w' [v106, v107, v108, v109, v110, v111, v112, v113] y.shadow ∧ Blk w' b3 ([sv y.href, sv y.uuid, .slice a103 y.dn.length cap104, v106, v107, v108, v109, v110, v111, v112, v113]) 34 ∧ Blk w' b115 ([.slice a742 out.length cap743]) 72 ∧ Blk w' b716 ([.slice a717 ((allF l1).length) cap718]) 27 ∧ b716 ∉ [l739] ++ ([D738] ++ (ob (.slice a742 out.length cap743) ++ ([b115] ++ M))) ∧ Sl kPg ([l739] ++ ([D738] ++ (ob (.slice a742 out.length cap743) ++ ([b115] ++ M)))) w' a717 (allF l1) ∧ Own kPr 77 w.heap.size ([l739] ++ ([D738] ++ ([b115] ++ M))) w' (.slice a742 out.length cap743) out ∧ Eff [] w w' ∧ True) (fun e w' => False) (by kernel_rfl) (by kernel_rfl) e49 (by kernel_rfl) hD740 hl741 ?_ ?_ ?_ nofun nofun ?_ ?_ ?_ ?_ ?_
 ·intro w744 E745 hs746
  have hE747 := hE727.and0 E745
  have := E745.size
  have Q748 := Q728.step (nNew (fresh1' (b := l739) (by omega)) (nNew (fresh1' (b := D738) (by omega)) (nKeep (nKeep same)))) E745 (by simp) no0
  have Q749 := Q729.step (nNew (fresh1' (b := l739) (by omega)) (nNew (fresh1' (b := D738) (by omega)) (nKeep (nKeep same)))) E745 (by simp) no0
  have B750 := B730.eff0 E745
  have nm752 := ninN nm707 B731.lt (nNew (fresh1' (b := l739) (by omega)) (nNew (fresh1' (b := D738) (by omega)) (nKeep (nKeep same))))
  have B751 := B731.eff0 E745
  have R753 := R732.step (nNew (fresh1' (b := l739) (by omega)) (nNew (fresh1' (b := D738) (by omega)) (nKeep (nKeep same)))) E745 no0
  have C754 := Kd.step (Kd.array 8 [] (Kd.slice Kd.str) rfl) C733 (nNew (fresh1' (b := l739) (by omega)) (nNew (fresh1' (b := D738) (by omega)) (nKeep (nKeep same)))) E745 no0
  have B755 := B734.eff0 E745
  have B756 := B735.eff0 E745
  have O757 := O736.step (nNew (fresh1' (b := l739) (by omega)) (nNew (fresh1' (b := D738) (by omega)) (nKeep same))) E745 no0
  have nm759 := ninN nm722 B719.lt (nNew (fresh1' (b := l739) (by omega)) (nNew (fresh1' (b := D738) (by omega)) (nKeep (nKeep same))))
  have B758 := B719.eff0 E745
  have R760 := R720.step (nNew (fresh1' (b := l739) (by omega)) (nNew (fresh1' (b := D738) (by omega)) (nKeep (nKeep same)))) E745 no0
  have hM761 : Mok ([l739] ++ ([D738] ++ (ob (.slice a138 o1.length cap139) ++ ([b115] ++ M)))) w744 := hM737.step E745 (nNew (flt1 (b := l739) (by omega)) (nNew (flt1 (b := D738) (by omega)) (nKeep (nKeep same))))
  exact ⟨a138, cap139, o1, (Nat.le_refl _), hM761, (by omega), (by rw [ho1]; rfl), (by rw [ho1]; exact Nat.le_refl _), Q748, Q749, B750, B751, nm752, R753, C754, B755, B756, B758, nm759, R760, O757, hE747, trivial⟩
 ·rintro N768 m767 pre w762 w763 ⟨a742, cap743, out, hm769, hb770, hlt771, hout, hol, F772, F773, F774, F775, nm776, F777, F778, F779, F780, F781, nm782, F783, O784, hE785, -⟩ E764 hs765 hlt766
  have hE786 := hE785.and1 E764 (by omega)
  have := E764.size
  have Q787 := F772.step same E764 (notin1 (by omega)) (in1 (List.mem_append_left _ (List.mem_singleton.2 rfl)))
  have Q788 := F773.step same E764 (notin1 (by omega)) (in1 (List.mem_append_left _ (List.mem_singleton.2 rfl)))
  have B789 := F774.eff1 E764 (by omega)
  have B790 := F775.eff1 E764 (by omega)
  have R791 := F777.step same E764 (in1 (List.mem_append_left _ (List.mem_singleton.2 rfl)))
  have C792 := Kd.step (Kd.array 8 [] (Kd.slice Kd.str) rfl) F778 same E764 (in1 (List.mem_append_left _ (List.mem_singleton.2 rfl)))
  have B793 := F779.eff1 E764 (by omega)
  have B794 := F780.eff1 E764 (by omega)
  have B795 := F781.eff1 E764 (by omega)
  have R796 := F783.step same E764 (in1 (List.mem_append_left _ (List.mem_singleton.2 rfl)))
  have O797 := O784.step same E764 (in1 (List.mem_append_left _ (List.mem_singleton.2 rfl)))
  have hM798 := (bnd_mok hb770 hm769).eff E764
  exact ⟨a742, cap743, out, (Nat.le_trans hm769 E764.size), hb770, (Nat.lt_of_lt_of_le hlt771 E764.size), (by exact hout), (by exact hol), Q787, Q788, B789, B790, nm776, R791, C792, B793, B794, B795, nm782, R796, O797, hE786, trivial⟩
 ·rintro N805 m804 pre w799 w800 ⟨a742, cap743, out, hm806, hb807, hlt808, hout, hol, F809, F810, F811, F812, nm813, F814, F815, F816, F817, F818, nm819, F820, O821, hE822, -⟩ E801
  have hE823 := hE822.and0 E801
  have := E801.size
  have Q824 := F809.step same E801 (by simp) no0
  have Q825 := F810.step same E801 (by simp) no0
  have B826 := F811.eff0 E801
  have B827 := F812.eff0 E801
  have R828 := F814.step same E801 no0
  have C829 := Kd.step (Kd.array 8 [] (Kd.slice Kd.str) rfl) F815 same E801 no0
  have B830 := F816.eff0 E801
  have B831 := F817.eff0 E801
  have B832 := F818.eff0 E801
  have R833 := F820.step same E801 no0
  have O834 := O821.step same E801 no0
  have hM835 := (bnd_mok hb807 hm806).eff E801
  exact ⟨a742, cap743, out, (Nat.le_trans hm806 E801.size), hb807, (Nat.lt_of_lt_of_le hlt808 E801.size), (by exact hout), (by exact hol), Q824, Q825, B826, B827, nm813, R828, C829, B830, B831, B832, nm819, R833, O834, hE823, trivial⟩
 ·rintro e w1 w2 h
  exact h.elim
 ·intro w841 J' hs842 E843 hJ844 hst845 _ _
  refine iter49 b716 a717 cap718 (allF l1) J' _ (fun N m pre w h => ?_) hst845 (fun x hx => allF_small hs hx)
  obtain ⟨a742, cap743, out, hm846, hb847, hlt848, hout, hol, F849, F850, F851, F852, nm853, F854, F855, F856, F857, F858, nm859, F860, O861, hE862, -⟩ := hJ844 N m pre w h
  exact ⟨F858, F860.wk0⟩
 ·rintro N866 m865 pre x args w863 ⟨a742, cap743, out, hm867, hb868, hlt869, hout, hol, F870, F871, F872, F873, nm874, F875, F876, F877, F878, F879, nm880, F881, O882, hE883, -⟩ hx he hlt864
  have hM884 : Mok ([l739] ++ ([D738] ++ (ob (.slice a742 out.length cap743) ++ ([b115] ++ M)))) w863 := (bnd_mok hb868 hm867)
  obtain ⟨_, x887⟩ := x
  obtain ⟨rfl, hx889, hlt890, hq891⟩ := hx
  obtain ⟨cs885, rfl, hall886⟩ := he
  have R888 : kPg.R ([l739] ++ ([D738] ++ (ob (.slice a742 out.length cap743) ++ ([b115] ++ M)))) w863 cs885 x887 := hall886 _ hb868 F881
  have := F881.1
  replace hx889 : (allF l1)[pre.length]? = some x887 := hx889
  obtain ⟨_, _, rfl, ⟨rfl, hl892⟩, ⟨_, _, rfl, ⟨rfl, hl893⟩, ⟨v894, v895, v896, v897, v898, v899, v900, v901, rfl, C902⟩⟩⟩ := R888
  refine ⟨rfl, ?_⟩
  have hC903 := Eff.refl [] w863
  obtain ⟨hq1, hq2⟩ := hxx _ (List.mem_of_getElem? hx889)
  show S _ _ _ c31b_n21 _ _ _ _
  refine S.reg (ops := o31b_n21) (js := [0, 1]) (by kernel_rfl) (by kernel_rfl) ?_
  refine L.alloc [sv [], sv [], .slice none 0 0, .slice none 0 0, .slice none 0 0, .slice none 0 0, .slice none 0 0, .slice none 0 0, .slice none 0 0, .slice none 0 0] (by kernel_rfl : lookAt _ _ _ _ = some ((Op.alloc 40), some 11)) (by kernel_rfl) ?_
  intro b904 w905 hs906 hz907 E908 B909
  have hE910 := hE883.and0 E908
  have := E908.size
  have hC911 := hC903.and0 E908
  have Q912 := F870.step (nNew (fresh1 hs906) (nKeep (nKeep (nKeep (nKeep same))))) E908 (by simp) no0
  have Q913 := F871.step (nNew (fresh1 hs906) (nKeep (nKeep (nKeep (nKeep same))))) E908 (by simp) no0
  have B914 := F872.eff0 E908
  have nm916 := ninN nm874 F873.lt (nNew (fresh1 hs906) (nKeep (nKeep (nKeep (nKeep same)))))
  have B915 := F873.eff0 E908
  have R917 := F875.step (nNew (fresh1 hs906) (nKeep (nKeep (nKeep (nKeep same))))) E908 no0
  have C918 := Kd.step (Kd.array 8 [] (Kd.slice Kd.str) rfl) F876 (nNew (fresh1 hs906) (nKeep (nKeep (nKeep (nKeep same))))) E908 no0
  have B919 := F877.eff0 E908
  have B920 := F878.eff0 E908
  have nm922 := ninN nm880 F879.lt (nNew (fresh1 hs906) (nKeep (nKeep (nKeep (nKeep same)))))
  have B921 := F879.eff0 E908
  have R923 := F881.step (nNew (fresh1 hs906) (nKeep (nKeep (nKeep (nKeep same))))) E908 no0
  have O924 := O882.step (nNew (fresh1 hs906) (nKeep (nKeep (nKeep same)))) E908 no0
  have C925 := Kd.step (Kd.array 8 [] (Kd.slice Kd.str) rfl) C902 (nNew (fresh1 hs906) (nKeep (nKeep (nKeep (nKeep same))))) E908 no0
  have hM926 : Mok ([b904] ++ ([l739] ++ ([D738] ++ (ob (.slice a742 out.length cap743) ++ ([b115] ++ M))))) w905 := hM884.step E908 (nNew (flt1 (b := b904) (by omega)) (nKeep (nKeep (nKeep (nKeep same)))))
  refine L.store 0 [sv x887.href, sv x887.uuid, v894, v895, v896, v897, v898, v899, v900, v901] [sv x887.href, sv x887.uuid, v894, v895, v896, v897, v898, v899, v900, v901] (by kernel_rfl : lookAt _ _ _ _ = some ((Op.store 40 (Operand.tmp 11) (Operand.tmp 47)), none)) (by kernel_rfl) B909 (by kernel_rfl) (by kernel_rfl) (by kernel_rfl) (ones_app (a := [sv x887.href, sv x887.uuid]) (b := [v894, v895, v896, v897, v898, v899, v900, v901]) (one_of_all (by kernel_rfl)) (Kd.one (Kd.array 8 [] (Kd.slice Kd.str) rfl) C925)) (by kernel_rfl) ?_
  intro w927 E928 hz929 B930
  have hE931 := hE910.and1 E928 (by omega)
  have := E928.size
  have hC932 := hC911.and1 E928 (by omega)
  have Q933 := Q912.step same E928 (notin1 (by omega)) (in1 (List.mem_append_left _ (List.mem_singleton.2 rfl)))
  have Q934 := Q913.step same E928 (notin1 (by omega)) (in1 (List.mem_append_left _ (List.mem_singleton.2 rfl)))
  have B935 := B914.eff1 E928 (by omega)
  have B936 := B915.eff1 E928 (by omega)
  have R937 := R917.step same E928 (in1 (List.mem_append_left _ (List.mem_singleton.2 rfl)))
  have C938 := Kd.step (Kd.array 8 [] (Kd.slice Kd.str) rfl) C918 same E928 (in1 (List.mem_append_left _ (List.mem_singleton.2 rfl)))
  have B939 := B919.eff1 E928 (by omega)
  have B940 := B920.eff1 E928 (by omega)
  have B941 := B921.eff1 E928 (by omega)
  have R942 := R923.step same E928 (in1 (List.mem_append_left _ (List.mem_singleton.2 rfl)))
  have O943 := O924.step same E928 (in1 (List.mem_append_left _ (List.mem_singleton.2 rfl)))
  have C944 := Kd.step (Kd.array 8 [] (Kd.slice Kd.str) rfl) C925 same E928 (in1 (List.mem_append_left _ (List.mem_singleton.2 rfl)))
  have hM945 := hM926.eff E928
  refine L.done ?_
  refine ⟨hC932, ?_⟩
  intro w946 E947 hs948
  have hE949 := hE931.and1 E947 (by omega)
  have := E947.size
  have Q950 := Q933.step same E947 (notin1 (by omega)) (in1 (List.mem_append_right _ (List.mem_append_left _ (List.mem_singleton.2 rfl))))
  have Q951 := Q934.step same E947 (notin1 (by omega)) (in1 (List.mem_append_right _ (List.mem_append_left _ (List.mem_singleton.2 rfl))))
  have B952 := B935.eff1 E947 (by omega)
  have B953 := B936.eff1 E947 (by omega)
  have R954 := R937.step same E947 (in1 (List.mem_append_right _ (List.mem_append_left _ (List.mem_singleton.2 rfl))))
  have C955 := Kd.step (Kd.array 8 [] (Kd.slice Kd.str) rfl) C938 same E947 (in1 (List.mem_append_right _ (List.mem_append_left _ (List.mem_singleton.2 rfl))))
  have B956 := B939.eff1 E947 (by omega)
  have B957 := B940.eff1 E947 (by omega)
  have B958 := B941.eff1 E947 (by omega)
  have R959 := R942.step same E947 (in1 (List.mem_append_right _ (List.mem_append_left _ (List.mem_singleton.2 rfl))))
  have O960 := O943.step same E947 (in1 (List.mem_append_right _ (List.mem_append_left _ (List.mem_singleton.2 rfl))))
  have C961 := Kd.step (Kd.array 8 [] (Kd.slice Kd.str) rfl) C944 same E947 (in1 (List.mem_append_right _ (List.mem_append_left _ (List.mem_singleton.2 rfl))))
  have B962 := B930.eff1 E947 (by omega)
  have hM963 := hM945.eff E947
  have hC964 := Eff.refl ([b904] ++ (ob (.slice a742 out.length cap743) ++ ([b115] ++ [b1, b2, pb, b3]))) w946
  have mm965 : ∀ x, x ∈ ob (.slice a742 out.length cap743) → x ∈ ([b904] ++ (ob (.slice a742 out.length cap743) ++ ([b115] ++ [b1, b2, pb, b3]))) ∨ w946.heap.size ≤ x := fun x hx => .inl (by simp [hx])
  show S _ _ _ c31b_n22 _ _ _ _
  refine S.block (id := 1) (x := c31b_n23) (by kernel_rfl) ?_
  refine S.seq (x := c31b_n24) (y := c31b_n25) (by kernel_rfl) ?_
  refine S.reg (ops := o31b_n24) (js := [0, 1, 2, 3, 4, 5, 6, 7]) (by kernel_rfl) (by kernel_rfl) ?_
  refine L.runU [0] [1, 2, 3, 4, 5, 6, 7] [(49, .pointer (some ⟨b904, 2, none⟩))] (by kernel_rfl) (by kernel_rfl) ?_
  refine L.val (.agg #[v894, v895, v896, v897, v898, v899, v900, v901]) (by kernel_rfl : lookAt _ _ _ _ = some ((Op.load 32 (Operand.tmp 49)), some 50)) (by intro c e; cases e) (rx_load 2 (.agg #[v894, v895, v896, v897, v898, v899, v900, v901]) (B962.cells) (by kernel_rfl) (by kernel_rfl)) ?_
  refine L.call (f := 58) (by kernel_rfl : lookAt _ _ _ _ = some ((Op.call { callee := (Callee.value (Operand.func 58)), args := #[(Operand.tmp 50)], argTypes := #[32] }), some 51)) e58 (by kernel_rfl) (text2_ok [v894, v895, v896, v897, v898, v899, v900, v901] x887.shadow _ (Kd.wk0 kCt ⟨_, _, _, _, _, _, _, _, rfl, C961⟩) B953) ?_
  rintro _ w967 E968 rfl
  have hE970 := hE949.and0 E968
  have := E968.size
  have hC971 := hC964.and0 E968
  have Q972 := Q950.step same E968 (by simp) no0
  have Q973 := Q951.step same E968 (by simp) no0
  have B974 := B952.eff0 E968
  have B975 := B953.eff0 E968
  have R976 := R954.step same E968 no0
  have C977 := Kd.step (Kd.array 8 [] (Kd.slice Kd.str) rfl) C955 same E968 no0
  have B978 := B956.eff0 E968
  have B979 := B957.eff0 E968
  have B980 := B958.eff0 E968
  have R981 := R959.step same E968 no0
  have O982 := O960.step same E968 no0
  have C983 := Kd.step (Kd.array 8 [] (Kd.slice Kd.str) rfl) C961 same E968 no0
  have B984 := B962.eff0 E968
  have hM985 := hM963.eff E968
  have := textS_len x887.shadow
  refine L.runU [3, 4, 5, 6, 7] [] [(48, .tuple #[sv (textS x887.shadow), .int .i64 (errR x887.shadow)]), (52, sv (textS x887.shadow)), (53, .int .i64 (errR x887.shadow)), (12, sv (textS x887.shadow)), (13, .int .i64 (errR x887.shadow))] (by kernel_rfl) (by kernel_rfl) ?_
  refine L.done ?_
  show S _ _ _ c31b_n25 _ _ _ _
  refine S.reg (ops := o31b_n25) (js := [0, 1, 2, 3, 4, 5, 6, 7, 8, 9, 10, 11, 12]) (by kernel_rfl) (by kernel_rfl) ?_
  refine L.val (.slice a742 out.length cap743) (by kernel_rfl : lookAt _ _ _ _ = some ((Op.load 72 (Operand.tmp 3)), some 54)) (by intro c e; cases e) (rx_load 0 (.slice a742 out.length cap743) (B979.cells) (by kernel_rfl) (by kernel_rfl)) ?_
  refine L.runU [1] [2, 3, 4, 5, 6, 7, 8, 9, 10, 11, 12] [(55, .pointer (some ⟨b904, 0, none⟩))] (by kernel_rfl) (by kernel_rfl) ?_
  refine L.val (sv x887.href) (by kernel_rfl : lookAt _ _ _ _ = some ((Op.load 9 (Operand.tmp 55)), some 56)) (by intro c e; cases e) (rx_load 0 (sv x887.href) (B984.cells) (by kernel_rfl) (by kernel_rfl)) ?_
  refine L.val (sv ([112] ++ x887.href)) (by kernel_rfl : lookAt _ _ _ _ = some ((Op.binOp BinOp.add 9 (Operand.const (Value.string { data := #[112] })) (Operand.tmp 56) 9), some 57)) (by intro c e; cases e) (rx_strAdd [112] x887.href (by kernel_rfl) (by kernel_rfl) (by (simp only [List.length_cons, List.length_nil, List.length_append, List.length_take, List.length_drop, List.length_map, List.length_replicate] <;> omega))) ?_
  refine L.runU [4] [5, 6, 7, 8, 9, 10, 11, 12] [(58, .pointer (some ⟨b904, 1, none⟩))] (by kernel_rfl) (by kernel_rfl) ?_
  refine L.val (sv x887.uuid) (by kernel_rfl : lookAt _ _ _ _ = some ((Op.load 9 (Operand.tmp 58)), some 59)) (by intro c e; cases e) (rx_load 1 (sv x887.uuid) (B984.cells) (by kernel_rfl) (by kernel_rfl)) ?_
  refine L.val (sv (x887.uuid ++ [10])) (by kernel_rfl : lookAt _ _ _ _ = some ((Op.binOp BinOp.add 9 (Operand.tmp 59) (Operand.const (Value.string { data := #[10] })) 9), some 60)) (by intro c e; cases e) (rx_strAdd x887.uuid [10] (by kernel_rfl) (by kernel_rfl) (by (simp only [List.length_cons, List.length_nil, List.length_append, List.length_take, List.length_drop, List.length_map, List.length_replicate] <;> omega))) ?_
  refine L.runU [7] [8, 9, 10, 11, 12] [(61, sv (textS x887.shadow))] (by kernel_rfl) (by kernel_rfl) ?_
  refine L.val (sv ((x887.uuid ++ [10]) ++ (textS x887.shadow))) (by kernel_rfl : lookAt _ _ _ _ = some ((Op.binOp BinOp.add 9 (Operand.tmp 60) (Operand.tmp 61) 9), some 62)) (by intro c e; cases e) (rx_strAdd (x887.uuid ++ [10]) (textS x887.shadow) (by kernel_rfl) (by kernel_rfl) (by (simp only [List.length_cons, List.length_nil, List.length_append, List.length_take, List.length_drop, List.length_map, List.length_replicate] <;> omega))) ?_
  refine L.runU [9] [10, 11, 12] [(63, .agg #[sv ([112] ++ x887.href), sv ((x887.uuid ++ [10]) ++ (textS x887.shadow))])] (by kernel_rfl) (by kernel_rfl) ?_
  refine L.newRow (fun b => .slice (some ⟨b, 0, none⟩) 1 1) [sv ([112] ++ x887.href), sv ((x887.uuid ++ [10]) ++ (textS x887.shadow))] 77 (by kernel_rfl : lookAt _ _ _ _ = some ((Op.buildSlice 72 1 #[(0, (Operand.tmp 63))]), some 64)) (by intro c e; cases e) (fun w => by kernel_rfl) ?_
  intro b986 w987 hs988 hz989 E990 B991
  have nm992 := not_mem_of_ge (b := b986) hM985 (by omega)
  have hE993 := hE970.and0 E990
  have := E990.size
  have hC994 := hC971.and0 E990
  have Q995 := Q972.step same E990 (by simp) no0
  have Q996 := Q973.step same E990 (by simp) no0
  have B997 := B974.eff0 E990
  have B998 := B975.eff0 E990
  have R999 := R976.step same E990 no0
  have C1000 := Kd.step (Kd.array 8 [] (Kd.slice Kd.str) rfl) C977 same E990 no0
  have B1001 := B978.eff0 E990
  have B1002 := B979.eff0 E990
  have B1003 := B980.eff0 E990
  have R1004 := R981.step same E990 no0
  have O1005 := O982.step same E990 no0
  have C1006 := Kd.step (Kd.array 8 [] (Kd.slice Kd.str) rfl) C983 same E990 no0
  have B1007 := B984.eff0 E990
  have hM1008 := hM985.eff E990
  refine L.append (K := kPr) (e := 77) (base := w.heap.size) (bytes := 32) (M := [b904] ++ ([l739] ++ ([D738] ++ ([b115] ++ M)))) (v := .slice a742 out.length cap743) (xs := out) (ys := [(⟨[112] ++ x887.href, (x887.uuid ++ [10]) ++ (textS x887.shadow)⟩ : Pr)]) (a := some ⟨b986, 0, none⟩) (cap := 1) (by kernel_rfl : lookAt _ _ _ _ = some ((Op.call { callee := (Callee.builtin Builtin.append), args := #[(Operand.tmp 54), (Operand.tmp 64)], argTypes := #[72, 72] }), some 65)) (by kernel_rfl) (by kernel_rfl) (by kernel_rfl) (by kernel_rfl) O1005 (Sl.one (K := kPr) (x := ((⟨[112] ++ x887.href, (x887.uuid ++ [10]) ++ (textS x887.shadow)⟩ : Pr))) B991 (fun h => nm992 ((sPull (sPull (sPull sSame))) _ h)) (Kd.sub kPr (M := [b904] ++ ([l739] ++ ([D738] ++ (ob (.slice a742 out.length cap743) ++ ([b115] ++ M))))) (w := w987) (cs := [sv ([112] ++ x887.href), sv ((x887.uuid ++ [10]) ++ (textS x887.shadow))]) (x := ((⟨[112] ++ x887.href, (x887.uuid ++ [10]) ++ (textS x887.shadow)⟩ : Pr))) ⟨[sv ([112] ++ x887.href)], [sv ((x887.uuid ++ [10]) ++ (textS x887.shadow))], rfl, ⟨rfl, by (simp only [List.length_cons, List.length_nil, List.length_append, List.length_take, List.length_drop, List.length_map, List.length_replicate] <;> omega)⟩, ⟨rfl, by (simp only [List.length_cons, List.length_nil, List.length_append, List.length_take, List.length_drop, List.length_map, List.length_replicate] <;> omega)⟩⟩ (sPull (sPull (sPull sSame))))) (hM1008.sub (sKeep (sKeep (sKeep (sDrop sSame))))) (by (simp only [List.length_cons, List.length_nil, List.length_append, List.length_take, List.length_drop, List.length_map, List.length_replicate] <;> omega)) (by omega) hE993.size ?_
  intro v1009 w1010 O1011 E1012 hat1013
  obtain ⟨a1014, cap1015, rfl⟩ := O1011.slice
  have hat1016 := hatN hat1013
  have hE1017 := hE993.andMem E1012 (memOwn O1005 (Nat.le_refl _))
  have := E1012.size
  have hC1018 := hC994.andMem E1012 mm965
  have mm1019 := memN (base := w946.heap.size) mm965 hat1016 (by omega)
  have Q1020 := Q995.step (nKeep (nKeep (nKeep (nTurn hat1016 (nKeep same))))) E1012 (fun h => absurd (O1005.lt _ h).1 (by omega)) (fun _ h => List.mem_append_right _ (List.mem_append_right _ (List.mem_append_right _ (List.mem_append_left _ (h)))))
  have Q1021 := Q996.step (nKeep (nKeep (nKeep (nTurn hat1016 (nKeep same))))) E1012 (fun h => absurd (O1005.lt _ h).1 (by omega)) (fun _ h => List.mem_append_right _ (List.mem_append_right _ (List.mem_append_right _ (List.mem_append_left _ (h)))))
  have B1022 := B997.eff E1012 (fun h => absurd (O1005.lt _ h).1 (by omega))
  have nm1024 := ninN nm916 B998.lt (nKeep (nKeep (nKeep (nTurn hat1016 (nKeep same)))))
  have B1023 := B998.eff E1012 (fun h => nm916 (List.mem_append_right _ (List.mem_append_right _ (List.mem_append_right _ (List.mem_append_left _ (h))))))
  have R1025 := R999.step (nKeep (nKeep (nKeep (nTurn hat1016 (nKeep same))))) E1012 (fun _ h => List.mem_append_right _ (List.mem_append_right _ (List.mem_append_right _ (List.mem_append_left _ (h)))))
  have C1026 := Kd.step (Kd.array 8 [] (Kd.slice Kd.str) rfl) C1000 (nKeep (nKeep (nKeep (nTurn hat1016 (nKeep same))))) E1012 (fun _ h => List.mem_append_right _ (List.mem_append_right _ (List.mem_append_right _ (List.mem_append_left _ (h)))))
  have B1027 := B1001.eff E1012 (fun h => absurd (O1005.lt _ h).1 (by omega))
  have B1028 := B1002.eff E1012 (O1005.apart (List.mem_append_right _ (List.mem_append_right _ (List.mem_append_right _ (List.mem_append_left _ (List.mem_singleton.2 rfl))))))
  have nm1030 := ninN nm922 B1003.lt (nKeep (nKeep (nKeep (nTurn hat1016 (nKeep same)))))
  have B1029 := B1003.eff E1012 (fun h => nm922 (List.mem_append_right _ (List.mem_append_right _ (List.mem_append_right _ (List.mem_append_left _ (h))))))
  have R1031 := R1004.step (nKeep (nKeep (nKeep (nTurn hat1016 (nKeep same))))) E1012 (fun _ h => List.mem_append_right _ (List.mem_append_right _ (List.mem_append_right _ (List.mem_append_left _ (h)))))
  have C1032 := Kd.step (Kd.array 8 [] (Kd.slice Kd.str) rfl) C1006 (nKeep (nKeep (nKeep (nTurn hat1016 (nKeep same))))) E1012 (fun _ h => List.mem_append_right _ (List.mem_append_right _ (List.mem_append_right _ (List.mem_append_left _ (h)))))
  have B1033 := B1007.eff E1012 (O1005.apart (List.mem_append_left _ (List.mem_singleton.2 rfl)))
  have nm1035 := ninN nm992 B991.lt (nKeep (nKeep (nKeep (nTurn hat1016 (nKeep same)))))
  have B1034 := B991.eff E1012 (fun h => nm992 (List.mem_append_right _ (List.mem_append_right _ (List.mem_append_right _ (List.mem_append_left _ (h))))))
  have hM1036 : Mok ([b904] ++ ([l739] ++ ([D738] ++ (ob (.slice a1014 ((out ++ [(⟨[112] ++ x887.href, (x887.uuid ++ [10]) ++ (textS x887.shadow)⟩ : Pr)]).length) cap1015) ++ ([b115] ++ M))))) w1010 := hM1008.step E1012 (nKeep (nKeep (nKeep (nTurn (fun b hb => .inr ((fun b hb => (O1011.lt b hb).2) b hb)) (nKeep same)))))
  refine L.store 0 [.slice a1014 ((out ++ [(⟨[112] ++ x887.href, (x887.uuid ++ [10]) ++ (textS x887.shadow)⟩ : Pr)]).length) cap1015] [.slice a1014 ((out ++ [(⟨[112] ++ x887.href, (x887.uuid ++ [10]) ++ (textS x887.shadow)⟩ : Pr)]).length) cap1015] (by kernel_rfl : lookAt _ _ _ _ = some ((Op.store 72 (Operand.tmp 3) (Operand.tmp 65)), none)) (by kernel_rfl) B1028 (by kernel_rfl) (by kernel_rfl) (by kernel_rfl) (one_of_all (by kernel_rfl)) (by kernel_rfl) ?_
  intro w1037 E1038 hz1039 B1040
  have hE1041 := hE1017.and1 E1038 (by omega)
  have := E1038.size
  have hC1042 := hC1018.andIn E1038 (in1 (by simp))
  have Q1043 := Q1020.step same E1038 (notin1 (by omega)) (in1 (List.mem_append_right _ (List.mem_append_right _ (List.mem_append_right _ (List.mem_append_right _ (List.mem_append_left _ (List.mem_singleton.2 rfl)))))))
  have Q1044 := Q1021.step same E1038 (notin1 (by omega)) (in1 (List.mem_append_right _ (List.mem_append_right _ (List.mem_append_right _ (List.mem_append_right _ (List.mem_append_left _ (List.mem_singleton.2 rfl)))))))
  have B1045 := B1022.eff1 E1038 (by omega)
  have B1046 := B1023.eff1 E1038 (by omega)
  have R1047 := R1025.step same E1038 (in1 (List.mem_append_right _ (List.mem_append_right _ (List.mem_append_right _ (List.mem_append_right _ (List.mem_append_left _ (List.mem_singleton.2 rfl)))))))
  have C1048 := Kd.step (Kd.array 8 [] (Kd.slice Kd.str) rfl) C1026 same E1038 (in1 (List.mem_append_right _ (List.mem_append_right _ (List.mem_append_right _ (List.mem_append_right _ (List.mem_append_left _ (List.mem_singleton.2 rfl)))))))
  have B1049 := B1027.eff1 E1038 (by omega)
  have B1050 := B1029.eff1 E1038 (by omega)
  have R1051 := R1031.step same E1038 (in1 (List.mem_append_right _ (List.mem_append_right _ (List.mem_append_right _ (List.mem_append_right _ (List.mem_append_left _ (List.mem_singleton.2 rfl)))))))
  have C1052 := Kd.step (Kd.array 8 [] (Kd.slice Kd.str) rfl) C1032 same E1038 (in1 (List.mem_append_right _ (List.mem_append_right _ (List.mem_append_right _ (List.mem_append_right _ (List.mem_append_left _ (List.mem_singleton.2 rfl)))))))
  have B1053 := B1033.eff1 E1038 (by omega)
  have B1054 := B1034.eff1 E1038 (by omega)
  have O1055 := O1011.step same E1038 (in1 (List.mem_append_right _ (List.mem_append_right _ (List.mem_append_right _ (List.mem_append_left _ (List.mem_singleton.2 rfl))))))
  have hM1056 := hM1036.eff E1038
  refine L.done ?_
  have hsub1057 : ∀ b, b ∈ [l739] ++ ([D738] ++ (ob (.slice a1014 ((out ++ [(⟨[112] ++ x887.href, (x887.uuid ++ [10]) ++ (textS x887.shadow)⟩ : Pr)]).length) cap1015) ++ ([b115] ++ M))) → b ∈ [b904] ++ ([l739] ++ ([D738] ++ (ob (.slice a1014 ((out ++ [(⟨[112] ++ x887.href, (x887.uuid ++ [10]) ++ (textS x887.shadow)⟩ : Pr)]).length) cap1015) ++ ([b115] ++ M)))) := (sDrop sSame)
  have hM1058 : Mok ([l739] ++ ([D738] ++ (ob (.slice a1014 ((out ++ [(⟨[112] ++ x887.href, (x887.uuid ++ [10]) ++ (textS x887.shadow)⟩ : Pr)]).length) cap1015) ++ ([b115] ++ M)))) w1037 := hM1056.sub hsub1057
  have F1059 := Q1043.sub hsub1057
  have F1060 := Q1044.sub hsub1057
  have nm1061 : 1 ∉ [l739] ++ ([D738] ++ (ob (.slice a1014 ((out ++ [(⟨[112] ++ x887.href, (x887.uuid ++ [10]) ++ (textS x887.shadow)⟩ : Pr)]).length) cap1015) ++ ([b115] ++ M))) := fun h => nm1024 (hsub1057 _ h)
  have F1062 := R1047.sub hsub1057
  have F1063 := Kd.sub (Kd.array 8 [] (Kd.slice Kd.str) rfl) C1048 hsub1057
  have nm1064 : b716 ∉ [l739] ++ ([D738] ++ (ob (.slice a1014 ((out ++ [(⟨[112] ++ x887.href, (x887.uuid ++ [10]) ++ (textS x887.shadow)⟩ : Pr)]).length) cap1015) ++ ([b115] ++ M))) := fun h => nm1030 (hsub1057 _ h)
  have F1065 := R1051.sub hsub1057
  have F1066 := Kd.sub (Kd.array 8 [] (Kd.slice Kd.str) rfl) C1052 hsub1057
  have nm1067 : b986 ∉ [l739] ++ ([D738] ++ (ob (.slice a1014 ((out ++ [(⟨[112] ++ x887.href, (x887.uuid ++ [10]) ++ (textS x887.shadow)⟩ : Pr)]).length) cap1015) ++ ([b115] ++ M))) := fun h => nm1035 (hsub1057 _ h)
  have O1068 := O1055.sub (sDrop sSame)
  show (_ ∧ _)
  exact ⟨⟨_, hC1042, (nin (notin1 (by omega)) (nin (O960.apart (List.mem_append_right _ (List.mem_append_left _ (List.mem_singleton.2 rfl)))) (nin (notin1 (by omega)) (by simp; omega)))), (nin (notin1 (by omega)) (nin (O960.apart (List.mem_append_right _ (List.mem_append_right _ (List.mem_append_left _ (List.mem_singleton.2 rfl))))) (nin (notin1 (by omega)) (by simp; omega))))⟩, ⟨a1014, cap1015, out ++ [(⟨[112] ++ x887.href, (x887.uuid ++ [10]) ++ (textS x887.shadow)⟩ : Pr)], (Nat.le_refl _), hM1058, (by omega), (by rw [hout, List.length_append, List.length_singleton]; exact rowP_snoc hx889), (by simp only [List.length_append, List.length_cons, List.length_nil]; omega), F1059, F1060, B1045, B1046, nm1061, F1062, F1063, B1049, B1040, B1050, nm1064, F1065, O1068, hE1041, trivial⟩⟩
 ·rintro N1073 m1072 pre w1069 hF ⟨a742, cap743, out, hm1074, hb1075, hlt1076, hout, hol, F1077, F1078, F1079, F1080, nm1081, F1082, F1083, F1084, F1085, F1086, nm1087, F1088, O1089, hE1090, -⟩ hlt1070 DB1071
  have hM1091 : Mok ([l739] ++ ([D738] ++ (ob (.slice a742 out.length cap743) ++ ([b115] ++ M)))) w1069 := bnd_mok hb1075 hm1074
  show S _ _ _ c31b_n26 _ _ _ _
  refine S.seq (x := c31b_n27) (y := c31b_n28) (by kernel_rfl) ?_
  refine S.reg (ops := o31b_n27) (js := [0, 1]) (by kernel_rfl) (by kernel_rfl) ?_
  refine L.val (.slice a742 out.length cap743) (by kernel_rfl : lookAt _ _ _ _ = some ((Op.load 72 (Operand.tmp 3)), some 66)) (by intro c e; cases e) (rx_load 0 (.slice a742 out.length cap743) (F1085.cells) (by kernel_rfl) (by kernel_rfl)) ?_
  refine L.runU [1] [] [(2, .slice a742 out.length cap743)] (by kernel_rfl) (by kernel_rfl) ?_
  refine L.done ?_
  show S _ _ _ c31b_n28 _ _ _ _
  refine S.ret (by kernel_rfl) ?_
  show Leave _ _ _ _ _ _ _ _
  refine Leave.mark (D := D738) (by intro h; cases h) DB1071 ?_
  intro w1092 E1093 hs1094
  have hE1095 := hE1090.and1 E1093 (by omega)
  have := E1093.size
  have Q1096 := F1077.step same E1093 (notin1 (by omega)) (in1 (List.mem_append_right _ (List.mem_append_left _ (List.mem_singleton.2 rfl))))
  have Q1097 := F1078.step same E1093 (notin1 (by omega)) (in1 (List.mem_append_right _ (List.mem_append_left _ (List.mem_singleton.2 rfl))))
  have B1098 := F1079.eff1 E1093 (by omega)
  have B1099 := F1080.eff1 E1093 (by omega)
  have R1100 := F1082.step same E1093 (in1 (List.mem_append_right _ (List.mem_append_left _ (List.mem_singleton.2 rfl))))
  have C1101 := Kd.step (Kd.array 8 [] (Kd.slice Kd.str) rfl) F1083 same E1093 (in1 (List.mem_append_right _ (List.mem_append_left _ (List.mem_singleton.2 rfl))))
  have B1102 := F1084.eff1 E1093 (by omega)
  have B1103 := F1085.eff1 E1093 (by omega)
  have B1104 := F1086.eff1 E1093 (by omega)
  have R1105 := F1088.step same E1093 (in1 (List.mem_append_right _ (List.mem_append_left _ (List.mem_singleton.2 rfl))))
  have O1106 := O1089.step same E1093 (in1 (List.mem_append_right _ (List.mem_append_left _ (List.mem_singleton.2 rfl))))
  have hM1107 := hM1091.eff E1093
  show Leave _ _ _ _ _ _ _ _
  refine Leave.ret1 (x := .tmp 2) (.slice a742 out.length cap743) (by kernel_rfl) (.ofT (by kernel_rfl)) ?_
  have := hF.1
  have R1108 := O1106.sl (by omega)
  have R1109 : Sl kPr M w1092 a742 out := R1108.sub (sDrop (sDrop (sDrop sSame)))
  have hx : out = rowI y :: (allF l1).map rowP := by rw [hout, List.take_of_length_le (by rw [hF.1]; exact Nat.le_refl _)] <;> rfl
  exact ⟨_, rfl, hE1095, a742, cap743, hx ▸ rfl, hx ▸ R1109⟩
 ·rintro e w1 h
  exact h.elim
end Go.Proofs.YtjleeadiadpiaaaGreatDoor
namespace Go.Proofs.YtjleeadiadpiaaaGreatDoor
open Go Go.Fx Go.RowKit
end Go.Proofs.YtjleeadiadpiaaaGreatDoor
namespace Go.Proofs.YtjleeadiadpiaaaGreatDoor
open Go Go.Fx Go.RowKit
section
variable {κ α : Type} [DecidableEq κ]
theorem mget_cons (p : κ × α) (l : List (κ × α)) (q : κ) : mget (p :: l) q = if p.1 = q then some p.2 else mget l q := by
  unfold mget
  by_cases h : p.1 = q <;> simp [List.find?, h]
theorem mget_nil (q : κ) : mget ([] : List (κ × α)) q = none := rfl
theorem mget_append (l m : List (κ × α)) (q : κ) : mget (l ++ m) q = match mget l q with | some x => some x | none => mget m q := by
  induction l with
  | nil => simp [mget_nil]
  | cons p l ih =>
    rw [List.cons_append, mget_cons, mget_cons]
    split <;> simp_all
theorem mget_none {l : List (κ × α)} {q : κ} (h : mget l q = none) : q ∉ l.map (·.1) := by
  induction l with
  | nil => simp
  | cons p l ih =>
    rw [mget_cons] at h
    split at h
    · cases h
    · rename_i he
      simp only [List.map_cons, List.mem_cons, not_or]
      exact ⟨fun e => he e.symm, ih h⟩
theorem mget_of_mem {l : List (κ × α)} (hn : (l.map (·.1)).Nodup) {q : κ} {x : α} (h : (q, x) ∈ l) : mget l q = some x := by
  induction l with
  | nil => cases h
  | cons p l ih =>
    rw [List.map_cons, List.nodup_cons] at hn
    rw [mget_cons]
    rcases List.mem_cons.1 h with rfl | h
    · simp
    · have : p.1 ≠ q := fun e => hn.1 (e ▸ List.mem_map.2 ⟨_, h, rfl⟩)
      rw [if_neg this]; exact ih hn.2 h
theorem mget_map_put (l : List (κ × α)) (x q : κ) (y : α) : mget (l.map fun p => if p.1 = x then (x, y) else p) q = if q = x then (mget l x).map (fun _ => y) else mget l q := by
  induction l with
  | nil => simp [mget_nil]
  | cons p l ih =>
    rw [List.map_cons, mget_cons, ih, mget_cons, mget_cons]
    by_cases h1 : p.1 = x <;> by_cases h2 : q = x <;> by_cases h3 : p.1 = q <;> simp_all
    all_goals (first | (exfalso; exact h2 h3.symm) | (intro h; exact absurd h.symm h2) | skip)
theorem mget_put (l : List (κ × α)) (x q : κ) (y : α) : mget (mput l x y) q = if q = x then some y else mget l q := by
  unfold mput
  cases h : mget l x with
  | some z =>
    simp only [Option.isSome_some, if_true]
    rw [mget_map_put, h]; rfl
  | none =>
    simp only [Option.isSome_none, Bool.false_eq_true, if_false]
    rw [mget_append, mget_cons, mget_nil]
    by_cases e : q = x
    · subst e; simp [h]
    · have : ¬ x = q := fun h => e h.symm
      simp only [this, e, if_false]
      cases mget l q <;> rfl
theorem mget_del (l : List (κ × α)) (x q : κ) : mget (mdel l x) q = if q = x then none else mget l q := by
  unfold mdel
  induction l with
  | nil => simp [mget_nil]
  | cons p l ih =>
    rw [List.filter_cons]
    by_cases h1 : p.1 = x
    · simp only [h1, ne_eq, not_true_eq_false, decide_false, Bool.false_eq_true, if_false, ih, mget_cons]
      by_cases h2 : q = x
      · simp [h2]
      · have : ¬ x = q := fun h => h2 h.symm
        simp [h2, this]
    · simp only [h1, ne_eq, not_false_eq_true, decide_true, if_true, mget_cons, ih]
      by_cases h2 : q = x
      · subst h2; simp [h1]
      · simp [h2]
theorem keys_put (l : List (κ × α)) (x : κ) (y : α) : (mput l x y).map (·.1) = if (mget l x).isSome then l.map (·.1) else l.map (·.1) ++ [x] := by
  unfold mput
  split
  · rw [List.map_map]
    apply List.map_congr_left
    intro p _
    simp only [Function.comp]
    split
    · rename_i h; exact h.symm
    · rfl
  · simp
theorem nodup_put {l : List (κ × α)} (hn : (l.map (·.1)).Nodup) (x : κ) (y : α) : ((mput l x y).map (·.1)).Nodup := by
  rw [keys_put]
  cases h : mget l x with
  | some z => simpa using hn
  | none =>
    simp only [Option.isSome_none, Bool.false_eq_true, if_false]
    rw [List.nodup_append]
    refine ⟨hn, by simp, fun a ha b hb e => ?_⟩
    obtain rfl : b = x := by simpa using hb
    subst e
    exact mget_none h ha
theorem nodup_del {l : List (κ × α)} (hn : (l.map (·.1)).Nodup) (x : κ) : ((mdel l x).map (·.1)).Nodup := hn.sublist (List.Sublist.map _ List.filter_sublist)
theorem len_put (l : List (κ × α)) (x : κ) (y : α) : (mput l x y).length = if (mget l x).isSome then l.length else l.length + 1 := by
  have := congrArg List.length (keys_put l x y)
  rw [List.length_map] at this
  rw [this]
  split <;> simp
theorem len_del (l : List (κ × α)) (x : κ) : (mdel l x).length ≤ l.length := List.length_filter_le _ _
end
structure Ps where
  l1 : List (Str × Pg)
  l2 : List (Str × Str)
  pm : Option Pm
structure Ps.Ok (s : Ps) : Prop where
  keys : (s.l1.map (·.1)).Nodup
  cards : ∀ q x, mget s.l1 q = some x → x.href = q ∧ hrefF x.href = true ∧ uuidF x.uuid = true ∧ rightF x.shadow = true ∧ x.shadow.length = 8 ∧ mget s.l2 x.uuid = some q
  entries : ∀ u q, mget s.l2 u = some q → ∃ x, mget s.l1 q = some x ∧ x.uuid = u
  few : s.l1.length ≤ 64
  prom : ∀ y, s.pm = some y → pmF y = true ∧ y.shadow.length = 8
def ps0 : Ps := ⟨[], [], none⟩
theorem ps0_ok : ps0.Ok := ⟨by simp [ps0], (by intro q x h; cases h), (by intro q x h; cases h), by simp [ps0], (by intro y h; cases h)⟩
def addP (s : Ps) (x : Pg) : Ps := if addF s.l1 s.l2 x = 0 then ⟨mput s.l1 x.href x, mput s.l2 x.uuid x.href, s.pm⟩ else s
def setP (s : Ps) (q : Str) (c : List (List Str)) : Ps := ⟨setL1 s.l1 q c, setL2 s.l1 s.l2 q c, s.pm⟩
def dropP (s : Ps) (q : Str) : Ps := ⟨mdel s.l1 q, dropL2 s.l1 s.l2 q, s.pm⟩
def clearP (s : Ps) : Ps := ⟨s.l1, s.l2, none⟩
theorem addF_zero {l1 : List (Str × Pg)} {l2 : List (Str × Str)} {x : Pg} (h : addF l1 l2 x = 0) : hrefF x.href = true ∧ uuidF x.uuid = true ∧ rightF x.shadow = true ∧ mget l1 x.href = none ∧ mget l2 x.uuid = none ∧ l1.length < 64 := by
  unfold addF at h
  split at h
  · rename_i h1
    split at h
    · cases h
    · rename_i h2
      split at h
      · cases h
      · rename_i h3
        simp only [Bool.or_eq_true, not_or, Bool.not_eq_true, Option.isSome_eq_false_iff, Option.isNone_iff_eq_none] at h2
        exact ⟨h1.1, h1.2.1, h1.2.2, h2.1, h2.2, by omega⟩
  · cases h
theorem Ps.Ok.add {s : Ps} (h : s.Ok) {x : Pg} (h8 : x.shadow.length = 8) : (addP s x).Ok := by
  unfold addP
  split
  · rename_i h0
    obtain ⟨a1, a2, a3, a4, a5, a6⟩ := addF_zero h0
    refine ⟨nodup_put h.keys _ _, fun q y hy => ?_, fun u q hq => ?_, ?_, h.prom⟩
    · simp only [mget_put] at hy ⊢
      split at hy
      · rename_i e; cases hy; exact ⟨e.symm, a1, a2, a3, h8, by simp [e]⟩
      · rename_i e
        obtain ⟨b1, b2, b3, b4, b5, b6⟩ := h.cards q y hy
        have : y.uuid ≠ x.uuid := fun e => by rw [e, a5] at b6; cases b6
        rw [if_neg this]
        exact ⟨b1, b2, b3, b4, b5, b6⟩
    · simp only [mget_put] at hq ⊢
      split at hq
      · rename_i e; cases hq; exact ⟨x, by rw [if_pos rfl], e.symm⟩
      · obtain ⟨y, hy, hu⟩ := h.entries u q hq
        have : q ≠ x.href := fun e => by rw [e, a4] at hy; cases hy
        exact ⟨y, by rw [if_neg this]; exact hy, hu⟩
    · rw [len_put, a4]; simp; omega
  · exact h
theorem Ps.Ok.set {s : Ps} (h : s.Ok) (q : Str) {c : List (List Str)} (h8 : c.length = 8) : (setP s q c).Ok := by
  unfold setP setL1 setL2
  cases hc : rightF c with
  | false => exact ⟨h.keys, h.cards, h.entries, h.few, h.prom⟩
  | true =>
    cases hx : mget s.l1 q with
    | none => exact ⟨h.keys, h.cards, h.entries, h.few, h.prom⟩
    | some x =>
      obtain ⟨a1, a2, a3, a4, a5, a6⟩ := h.cards q x hx
      subst a1
      refine ⟨nodup_put h.keys _ _, fun p y hy => ?_, fun u p hp => ?_, ?_, h.prom⟩
      · simp only [mget_put] at hy ⊢
        split at hy
        · rename_i e; cases hy; exact ⟨e.symm, a2, a3, hc, h8, by simp [e]⟩
        · rename_i e
          obtain ⟨b1, b2, b3, b4, b5, b6⟩ := h.cards p y hy
          have : y.uuid ≠ x.uuid := fun e' => by rw [e', a6] at b6; cases b6; exact e rfl
          rw [if_neg this]
          exact ⟨b1, b2, b3, b4, b5, b6⟩
      · simp only [mget_put] at hp ⊢
        split at hp
        · rename_i e; cases hp; exact ⟨⟨x.href, x.uuid, c⟩, by simp, e.symm⟩
        · obtain ⟨y, hy, hu⟩ := h.entries u p hp
          by_cases e : p = x.href
          · subst e; rw [hx] at hy; cases hy; exact ⟨⟨x.href, x.uuid, c⟩, by simp, hu⟩
          · exact ⟨y, by rw [if_neg e]; exact hy, hu⟩
      · rw [len_put, hx]; simpa using h.few
theorem Ps.Ok.drop {s : Ps} (h : s.Ok) (q : Str) : (dropP s q).Ok := by
  unfold dropP dropL2
  cases hx : mget s.l1 q with
  | none =>
    refine ⟨nodup_del h.keys _, fun p y hy => ?_, fun u p hp => ?_, Nat.le_trans (len_del _ _) h.few, h.prom⟩
    · rw [mget_del] at hy; split at hy
      · cases hy
      · exact h.cards p y hy
    · obtain ⟨y, hy, hu⟩ := h.entries u p hp
      refine ⟨y, ?_, hu⟩
      rw [mget_del, if_neg (fun e => by rw [e, hx] at hy; cases hy)]; exact hy
  | some x =>
    obtain ⟨a1, a2, a3, a4, a5, a6⟩ := h.cards q x hx
    refine ⟨nodup_del h.keys _, fun p y hy => ?_, fun u p hp => ?_, Nat.le_trans (len_del _ _) h.few, h.prom⟩
    · rw [mget_del] at hy; split at hy
      · cases hy
      · rename_i e
        obtain ⟨b1, b2, b3, b4, b5, b6⟩ := h.cards p y hy
        refine ⟨b1, b2, b3, b4, b5, ?_⟩
        rw [mget_del, if_neg (fun e' => by rw [e', a6] at b6; cases b6; exact e rfl)]; exact b6
    · rw [mget_del] at hp; split at hp
      · cases hp
      · rename_i e
        obtain ⟨y, hy, hu⟩ := h.entries u p hp
        refine ⟨y, ?_, hu⟩
        rw [mget_del, if_neg (fun e' => by rw [e', hx] at hy; cases hy; exact e hu.symm)]; exact hy
theorem Ps.Ok.clear {s : Ps} (h : s.Ok) : (clearP s).Ok := ⟨h.keys, h.cards, h.entries, h.few, fun z hz => by cases hz⟩
theorem lenIn_le {l : Str} {a b : Nat} (h : lenIn l a b = true) : l.length ≤ b := by simp only [lenIn, Bool.and_eq_true, decide_eq_true_eq] at h; exact h.2
theorem href_len {l : Str} (h : hrefF l = true) : l.length ≤ 70 := by
  simp only [hrefF, plainF, Bool.and_eq_true] at h
  have := lenIn_le h.2.2
  rw [List.length_drop] at this; omega
theorem uuid_len {l : Str} (h : uuidF l = true) : l.length ≤ 64 := by
  simp only [uuidF, Bool.and_eq_true] at h
  exact lenIn_le h.2
theorem Ps.Ok.small {s : Ps} (h : s.Ok) : ∀ q x, mget s.l1 q = some x → ∀ j, (x.shadow.getD j []).length ≤ 1048576 := fun q x hx => let ⟨_, _, _, h4, h5, _⟩ := h.cards q x hx; right_small h5 h4
theorem Ps.Ok.klen {s : Ps} (h : s.Ok) : ∀ p ∈ s.l1, p.1.length < 4611686018427387904 := by
  intro p hp
  obtain ⟨h1, h2, _⟩ := h.cards p.1 p.2 (mget_of_mem h.keys hp)
  have := href_len h2
  rw [h1] at this; omega
theorem mem_allF {l1 : List (Str × Pg)} {x : Pg} (hx : x ∈ allF l1) : ∃ q y, mget l1 q = some y ∧ x = y := by
  obtain ⟨q, hq, rfl⟩ := List.mem_map.1 hx
  rw [List.mem_mergeSort] at hq
  cases h : mget l1 q with
  | none => exact absurd hq (mget_none h)
  | some y => exact ⟨q, y, h, by simp only [cardF, h]⟩
theorem Ps.Ok.lens {s : Ps} (h : s.Ok) : ∀ x ∈ allF s.l1, x.href.length ≤ 100 ∧ x.uuid.length ≤ 100 := by
  intro x hx
  obtain ⟨q, y, hy, rfl⟩ := mem_allF hx
  obtain ⟨_, h2, h3, _⟩ := h.cards q x hy
  have := href_len h2
  have := uuid_len h3
  omega
theorem pm_small {y : Pm} (h : pmF y = true) (h8 : y.shadow.length = 8) : (∀ j, (y.shadow.getD j []).length ≤ 1048576) ∧ y.dn.length ≤ 1048576 ∧ y.href.length ≤ 100 ∧ y.uuid.length ≤ 100 := by
  simp only [pmF, Bool.and_eq_true] at h
  refine ⟨right_small h8 h.2.2, either_dn h.1, ?_, ?_⟩
  · have := href_len h.2.1; omega
  · have := h.1
    simp only [eitherF, Bool.or_eq_true, Bool.and_eq_true, decide_eq_true_eq] at this
    rcases this with h | h
    · have := uuid_len h.1; omega
    · rw [h.1]; simp
def PmAt (M : List Nat) (w : World) (z : Value) : Option Pm → Prop
  | none => z = .pointer none
  | some y => ∃ b3 cs, z = .pointer (some ⟨b3, 0, none⟩) ∧ Blk w b3 cs 34 ∧ kPm.R M w cs y ∧ b3 ∉ M
structure PsAt (M : List Nat) (w : World) (pb b1 b2 : Nat) (s : Ps) : Prop where
  ok : s.Ok
  mok : Mok M w
  in0 : pb ∈ M
  in1 : b1 ∈ M
  in2 : b2 ∈ M
  ne1 : pb ≠ b1
  ne2 : pb ≠ b2
  ne : b1 ≠ b2
  q1 : MapIs Key.str kPg true M w b1 s.l1
  q2 : MapIs Key.str Kd.str false M w b2 s.l2
  obj : ∃ z, Blk w pb [.map (some b1), .map (some b2), z] 59 ∧ PmAt M w z s.pm
theorem PmAt.step {M M' W : List Nat} {w w' : World} {z : Value} {p : Option Pm} (h : PmAt M w z p) (hM : Mok M w) (hN : ∀ b, b ∈ M' → b ∈ M ∨ w.heap.size ≤ b) (E : Eff W w w') (hW : ∀ b, b ∈ W → b ∈ M) : PmAt M' w' z p := by
  cases p with
  | none => exact h
  | some y =>
    obtain ⟨b3, cs, h1, h2, h3, h4⟩ := h
    exact ⟨b3, cs, h1, h2.eff E (fun hx => h4 (hW _ hx)), Kd.step kPm h3 hN E hW, fun hx => (hN _ hx).elim h4 (fun hle => absurd h2.lt (Nat.not_lt.2 hle))⟩
theorem PsAt.step {M M' W : List Nat} {w w' : World} {pb b1 b2 : Nat} {s : Ps} (h : PsAt M w pb b1 b2 s) (hM' : Mok M' w') (hN : ∀ b, b ∈ M' → b ∈ M ∨ w.heap.size ≤ b) (i0 : pb ∈ M') (i1 : b1 ∈ M') (i2 : b2 ∈ M') (E : Eff W w w') (n0 : pb ∉ W) (n1 : b1 ∉ W) (n2 : b2 ∉ W) (hW : ∀ b, b ∈ W → b ∈ M) : PsAt M' w' pb b1 b2 s :=
  ⟨h.ok, hM', i0, i1, i2, h.ne1, h.ne2, h.ne, h.q1.step hN E n1 hW, h.q2.step hN E n2 hW, let ⟨z, hB, hz⟩ := h.obj; ⟨z, hB.eff E n0, hz.step h.mok hN E hW⟩⟩
theorem PsAt.eff0 {M : List Nat} {w w' : World} {pb b1 b2 : Nat} {s : Ps} (h : PsAt M w pb b1 b2 s) (E : Eff [] w w') : PsAt M w' pb b1 b2 s :=
  h.step (h.mok.eff E) same h.in0 h.in1 h.in2 E (by simp) (by simp) (by simp) no0
theorem PsAt.w12 {M : List Nat} {w : World} {pb b1 b2 : Nat} {s : Ps} (h : PsAt M w pb b1 b2 s) : ∀ b, b ∈ [b1, b2] → b ∈ M := by
  intro b hb
  simp only [List.mem_cons, List.not_mem_nil, or_false] at hb
  rcases hb with e | e
  · rw [e]; exact h.in1
  · rw [e]; exact h.in2
theorem PsAt.maps {M : List Nat} {w w' : World} {pb b1 b2 : Nat} {s s' : Ps} (h : PsAt M w pb b1 b2 s) (E : Eff [b1, b2] w w') (ho : s'.Ok) (hp : s'.pm = s.pm) (q1 : MapIs Key.str kPg true M w' b1 s'.l1) (q2 : MapIs Key.str Kd.str false M w' b2 s'.l2) : PsAt M w' pb b1 b2 s' :=
  ⟨ho, h.mok.eff E, h.in0, h.in1, h.in2, h.ne1, h.ne2, h.ne, q1, q2, let ⟨z, hB, hz⟩ := h.obj; ⟨z, hB.eff E (by simp [h.ne1, h.ne2]), hp ▸ hz.step h.mok same E h.w12⟩⟩
theorem PsAt.put {M : List Nat} {w w' : World} {pb b1 b2 : Nat} {s s' : Ps} {z : Value} (h : PsAt M w pb b1 b2 s) (E : Eff [pb] w w') (ho : s'.Ok) (h1 : s'.l1 = s.l1) (h2 : s'.l2 = s.l2) (hB : Blk w' pb [.map (some b1), .map (some b2), z] 59) (hz : PmAt M w' z s'.pm) : PsAt M w' pb b1 b2 s' :=
  have hW : ∀ b, b ∈ [pb] → b ∈ M := by intro b hb; simp at hb; subst hb; exact h.in0
  ⟨ho, h.mok.eff E, h.in0, h.in1, h.in2, h.ne1, h.ne2, h.ne, h1 ▸ h.q1.step same E (by simp [h.ne1.symm]) hW, h2 ▸ h.q2.step same E (by simp [h.ne2.symm]) hW, z, hB, hz⟩
theorem RetW.up {W W' : List Nat} {w : World} {Φ Ψ : Value → World → Prop} {e : Ending} {w' : World} (h : RetW W w Φ e w') (hW : ∀ b, b ∈ W → b ∈ W') (hΦ : ∀ v w', Eff W w w' → Φ v w' → Ψ v w') : RetW W' w Ψ e w' := by
  obtain ⟨v, he, E, hv⟩ := h
  exact ⟨v, he, E.weak (fun b hb _ => hW b hb), hΦ v w' E hv⟩
theorem PsAt.sub {M M' : List Nat} {w : World} {pb b1 b2 : Nat} {s : Ps} (h : PsAt M w pb b1 b2 s) (hM' : Mok M' w) (hs : ∀ b, b ∈ M' → b ∈ M) (i0 : pb ∈ M') (i1 : b1 ∈ M') (i2 : b2 ∈ M') : PsAt M' w pb b1 b2 s :=
  h.step hM' (fun b hb => .inl (hs b hb)) i0 i1 i2 (Eff.refl [] _) (by simp) (by simp) (by simp) no0
def rowsF (s : Ps) : List Pr := match s.pm with | none => (allF s.l1).map rowP | some y => rowI y :: (allF s.l1).map rowP
abbrev PT (pb : Nat) : Value := .pointer (some ⟨pb, 0, none⟩)
theorem add_ps {M : List Nat} {pb b1 b2 : Nat} {s : Ps} {w : World} (h : PsAt M w pb b1 b2 s) {cs : List Value} {x : Pg} (hx : kPg.R M w cs x) : Calls Tryz.prog 27 #[PT pb, .agg cs.toArray] w (RetW [pb, b1, b2] w fun v w' => v = .int .i64 (addF s.l1 s.l2 x) ∧ PsAt M w' pb b1 b2 (addP s x)) := by
  obtain ⟨z, hB, hz⟩ := h.obj
  have h8 : x.shadow.length = 8 := by obtain ⟨c1, c2, _, _, d1, d2, _, _, h3⟩ := hx; exact len8 h3
  refine (add_ok M pb b1 b2 s.l1 s.l2 z cs x w hB h.ne1 h.ne2 h.mok h.q1 h.q2 h.in1 h.in2 h.ne hx).mono fun e w' hr => RetW.up hr (by simp) ?_
  rintro v w' E ⟨h1, h2, h3⟩
  refine ⟨h1, h.maps E (h.ok.add h8) (by unfold addP; split <;> rfl) ?_ ?_⟩
  · unfold addP; split <;> rename_i h0 <;> simpa [h0] using h2
  · unfold addP; split <;> rename_i h0 <;> simpa [h0] using h3
def entryAt (s : Ps) (u : Str) : Str := (mget s.l2 u).getD []
theorem entry_ps {M : List Nat} {pb b1 b2 : Nat} {s : Ps} {w : World} (h : PsAt M w pb b1 b2 s) (u : Str) : Calls Tryz.prog 15 #[PT pb, sv u] w (RetW [] w fun v w' => ∃ cs, v = .tuple #[.agg cs.toArray, .bool (mget s.l1 (entryAt s u)).isSome] ∧ kPg.R M w' cs (cardF s.l1 (entryAt s u))) := by
  obtain ⟨z, hB, hz⟩ := h.obj
  exact entry_ok M pb b1 b2 s.l1 s.l2 z u w hB h.ne1 h.ne2 h.mok h.q1 h.q2 h.in1 h.in2 h.ne h.ok.small
theorem rows_ps {M : List Nat} {pb b1 b2 : Nat} {s : Ps} {w : World} (h : PsAt M w pb b1 b2 s) (hT : TabP w) (hTM : 1 ∉ M) : Calls Tryz.prog 31 #[PT pb] w (RetW [] w fun v w' => ∃ a cap, v = .slice a (rowsF s).length cap ∧ Sl kPr M w' a (rowsF s)) := by
  unfold rowsF
  obtain ⟨z, hB, hz⟩ := h.obj
  have := h.ok.few
  cases hp : s.pm with
  | none =>
    rw [hp] at hz
    cases hz
    exact rows_none M pb b1 b2 s.l1 s.l2 w hB h.ne1 h.ne2 h.mok h.q1 h.q2 h.in1 h.in2 h.ne h.ok.small (by omega) h.ok.klen h.ok.lens hT hTM
  | some y =>
    rw [hp] at hz
    obtain ⟨b3, cs, rfl, g1, g2, g3⟩ := hz
    obtain ⟨k1, k2⟩ := h.ok.prom y hp
    obtain ⟨k3, k4, k5⟩ := pm_small k1 k2
    exact rows_some M pb b1 b2 s.l1 s.l2 b3 cs y w hB h.ne1 h.ne2 h.mok h.q1 h.q2 h.in1 h.in2 h.ne h.ok.small (by omega) h.ok.klen h.ok.lens hT hTM g2 g1 (fun e => g3 (e ▸ h.in0)) k3 k4 k5
theorem new_ps (w : World) : Calls Tryz.prog 11 #[] w (RetW [] w fun v w' => ∃ pb b1 b2, v = PT pb ∧ w.heap.size ≤ pb ∧ w.heap.size ≤ b1 ∧ w.heap.size ≤ b2 ∧ pb < w'.heap.size ∧ b1 < w'.heap.size ∧ b2 < w'.heap.size ∧ pb ≠ b1 ∧ pb ≠ b2 ∧ b1 ≠ b2 ∧ ∀ M, Mok M w' → pb ∈ M → b1 ∈ M → b2 ∈ M → PsAt M w' pb b1 b2 ps0) := by
  refine (new_ok w).mono fun e w' hr => RetW.up hr (by simp) ?_
  rintro v w' E ⟨pb, b1, b2, rfl, hB, q1, q2, h1, h2, h3, h4, h5, h6⟩
  exact ⟨pb, b1, b2, rfl, h3, h1, h2, hB.lt, q1.lt, q2.lt, h5, h6, h4, fun M hM i0 i1 i2 => ⟨ps0_ok, hM, i0, i1, i2, h5, h6, h4, q1.empty, q2.empty, _, hB, rfl⟩⟩
end Go.Proofs.YtjleeadiadpiaaaGreatDoor
namespace Go.Proofs.YtjleeadiadpiaaaGreatDoor
open Go Go.Fx Go.RowKit
def annC : List (List Str) := [[[65, 110, 110]], [], [], [], [], [], [], []]
theorem ann_R {M : List Nat} {w : World} {a : Option Addr} (h : Sl Kd.str M w a [[65, 110, 110]]) : (Kd.array 8 [] (Kd.slice Kd.str) rfl).R M w [.slice a 1 1, .slice none 0 0, .slice none 0 0, .slice none 0 0, .slice none 0 0, .slice none 0 0, .slice none 0 0, .slice none 0 0] annC := by
 have h0 := arr_set (j := 0) (cap := 1) (arr_nil (w := w) (m := 8) (K := Kd.str) (M := M)) h
 exact h0
noncomputable def c29 : Code := bodyOf Tryz.f29
noncomputable def c29_0 : Code := kid 0 c29
noncomputable def o29_0 : Array Oper := regOps c29_0
noncomputable def c29_1 : Code := kid 1 c29
noncomputable def c29_1_0 : Code := kid 0 c29_1
noncomputable def o29_1_0 : Array Oper := regOps c29_1_0
noncomputable def c29_1_1 : Code := kid 1 c29_1
noncomputable def c29_1_1_0 : Code := kid 0 c29_1_1
noncomputable def o29_1_1_0 : Array Oper := regOps c29_1_1_0
noncomputable def c29_1_1_1 : Code := kid 1 c29_1_1
noncomputable def c29_n7 : Code := kid 0 c29_1_1_1
noncomputable def o29_n7 : Array Oper := regOps c29_n7
noncomputable def c29_n8 : Code := kid 1 c29_1_1_1
set_option maxHeartbeats 400000 in
theorem somebody_ok (M : List Nat) (w : World) (hM : Mok M w) : Calls Tryz.prog 29 #[] w (RetW [] w fun v w' => ∃ cs, v = .agg cs.toArray ∧ kCt.R M w' cs annC) := by
 refine calls_of_S (n := 6) (c := c29) Tryz.func29 (by kernel_rfl) (by kernel_rfl) (Nat.le_of_ble_eq_true (by kernel_rfl)) ?_
 have hE0 : Eff [] w w := Eff.refl _ _
 refine S.seq (x := c29_0) (y := c29_1) (by kernel_rfl) ?_
 refine S.reg (ops := o29_0) (js := [0]) (by kernel_rfl) (by kernel_rfl) ?_
 refine L.alloc [.slice none 0 0, .slice none 0 0, .slice none 0 0, .slice none 0 0, .slice none 0 0, .slice none 0 0, .slice none 0 0, .slice none 0 0] (by kernel_rfl : lookAt _ _ _ _ = some ((Op.alloc 32), some 0)) (by kernel_rfl) ?_
 intro b101 w102 hs103 hz104 E105 B106
 have hE107 := hE0.and0 E105
 have := E105.size
 have hM108 : Mok ([b101] ++ M) w102 := hM.step E105 (nNew (flt1 (b := b101) (by omega)) same)
 refine L.done ?_
 show S _ _ _ c29_1 _ _ _ _
 refine S.seq (x := c29_1_0) (y := c29_1_1) (by kernel_rfl) ?_
 refine S.reg (ops := o29_1_0) (js := [0, 1, 2]) (by kernel_rfl) (by kernel_rfl) ?_
 refine L.runU [0] [1, 2] [(2, .agg #[.slice none 0 0, .slice none 0 0, .slice none 0 0, .slice none 0 0, .slice none 0 0, .slice none 0 0, .slice none 0 0, .slice none 0 0])] (by kernel_rfl) (by kernel_rfl) ?_
 refine L.alloc [.slice none 0 0, .slice none 0 0, .slice none 0 0, .slice none 0 0, .slice none 0 0, .slice none 0 0, .slice none 0 0, .slice none 0 0] (by kernel_rfl : lookAt _ _ _ _ = some ((Op.alloc 32), some 1)) (by kernel_rfl) ?_
 intro b109 w110 hs111 hz112 E113 B114
 have hE115 := hE107.and0 E113
 have := E113.size
 have B116 := B106.eff0 E113
 have hM117 : Mok ([b109] ++ ([b101] ++ M)) w110 := hM108.step E113 (nNew (flt1 (b := b109) (by omega)) (nKeep same))
 refine L.store 0 [.slice none 0 0, .slice none 0 0, .slice none 0 0, .slice none 0 0, .slice none 0 0, .slice none 0 0, .slice none 0 0, .slice none 0 0] [.slice none 0 0, .slice none 0 0, .slice none 0 0, .slice none 0 0, .slice none 0 0, .slice none 0 0, .slice none 0 0, .slice none 0 0] (by kernel_rfl : lookAt _ _ _ _ = some ((Op.store 32 (Operand.tmp 1) (Operand.tmp 2)), none)) (by kernel_rfl) B114 (by kernel_rfl) (by kernel_rfl) (by kernel_rfl) (one_of_all (by kernel_rfl)) (by kernel_rfl) ?_
 intro w118 E119 hz120 B121
 have hE122 := hE115.and1 E119 (by omega)
 have := E119.size
 have B123 := B116.eff1 E119 (by omega)
 have hM124 := hM117.eff E119
 refine L.done ?_
 show S _ _ _ c29_1_1 _ _ _ _
 refine S.seq (x := c29_1_1_0) (y := c29_1_1_1) (by kernel_rfl) ?_
 refine S.reg (ops := o29_1_1_0) (js := [0, 1, 2]) (by kernel_rfl) (by kernel_rfl) ?_
 refine L.newRow (fun b => .slice (some ⟨b, 0, none⟩) 1 1) [sv [65, 110, 110]] 9 (by kernel_rfl : lookAt _ _ _ _ = some ((Op.buildSlice 30 1 #[(0, (Operand.const (Value.string { data := #[65, 110, 110] })))]), some 3)) (by intro c e; cases e) (fun w => by kernel_rfl) ?_
 intro b125 w126 hs127 hz128 E129 B130
 have nm131 := not_mem_of_ge (b := b125) hM124 (by omega)
 have hE132 := hE122.and0 E129
 have := E129.size
 have B133 := B123.eff0 E129
 have B134 := B121.eff0 E129
 have hM135 := hM124.eff E129
 refine L.runU [1] [2] [(4, .pointer (some ⟨b109, 0, none⟩))] (by kernel_rfl) (by kernel_rfl) ?_
 refine L.store 0 [.slice (some ⟨b125, 0, none⟩) 1 1] [.slice (some ⟨b125, 0, none⟩) 1 1, .slice none 0 0, .slice none 0 0, .slice none 0 0, .slice none 0 0, .slice none 0 0, .slice none 0 0, .slice none 0 0] (by kernel_rfl : lookAt _ _ _ _ = some ((Op.store 30 (Operand.tmp 4) (Operand.tmp 3)), none)) (by kernel_rfl) B134 (by kernel_rfl) (by kernel_rfl) (by kernel_rfl) (one_of_all (by kernel_rfl)) (by kernel_rfl) ?_
 intro w136 E137 hz138 B139
 have hE140 := hE132.and1 E137 (by omega)
 have := E137.size
 have B141 := B133.eff1 E137 (by omega)
 have B142 := B130.eff1 E137 (by omega)
 have hM143 := hM135.eff E137
 refine L.done ?_
 show S _ _ _ c29_1_1_1 _ _ _ _
 refine S.seq (x := c29_n7) (y := c29_n8) (by kernel_rfl) ?_
 refine S.reg (ops := o29_n7) (js := [0, 1]) (by kernel_rfl) (by kernel_rfl) ?_
 refine L.val (.agg #[.slice (some ⟨b125, 0, none⟩) 1 1, .slice none 0 0, .slice none 0 0, .slice none 0 0, .slice none 0 0, .slice none 0 0, .slice none 0 0, .slice none 0 0]) (by kernel_rfl : lookAt _ _ _ _ = some ((Op.load 32 (Operand.tmp 1)), some 5)) (by intro c e; cases e) (rx_load 0 (.agg #[.slice (some ⟨b125, 0, none⟩) 1 1, .slice none 0 0, .slice none 0 0, .slice none 0 0, .slice none 0 0, .slice none 0 0, .slice none 0 0, .slice none 0 0]) (B139.cells) (by kernel_rfl) (by kernel_rfl)) ?_
 refine L.store 0 [.slice (some ⟨b125, 0, none⟩) 1 1, .slice none 0 0, .slice none 0 0, .slice none 0 0, .slice none 0 0, .slice none 0 0, .slice none 0 0, .slice none 0 0] [.slice (some ⟨b125, 0, none⟩) 1 1, .slice none 0 0, .slice none 0 0, .slice none 0 0, .slice none 0 0, .slice none 0 0, .slice none 0 0, .slice none 0 0] (by kernel_rfl : lookAt _ _ _ _ = some ((Op.store 32 (Operand.tmp 0) (Operand.tmp 5)), none)) (by kernel_rfl) B141 (by kernel_rfl) (by kernel_rfl) (by kernel_rfl) (one_of_all (by kernel_rfl)) (by kernel_rfl) ?_
 intro w144 E145 hz146 B147
 have hE148 := hE140.and1 E145 (by omega)
 have := E145.size
 have B149 := B142.eff1 E145 (by omega)
 have B150 := B139.eff1 E145 (by omega)
 have hM151 := hM143.eff E145
 refine L.done ?_
 show S _ _ _ c29_n8 _ _ _ _
 refine S.ret (by kernel_rfl) ?_
 show Leave _ _ _ _ _ _ _ _
 refine Leave.ret1 (x := .cell 0 32) (.agg #[.slice (some ⟨b125, 0, none⟩) 1 1, .slice none 0 0, .slice none 0 0, .slice none 0 0, .slice none 0 0, .slice none 0 0, .slice none 0 0, .slice none 0 0]) (by kernel_rfl) (.ofC 0 (by kernel_rfl) B147.cells (by kernel_rfl)) ?_
 have hsub152 : ∀ b, b ∈ M → b ∈ [b109] ++ ([b101] ++ M) := (sDrop (sDrop sSame))
 have hM153 : Mok (M) w144 := hM151.sub hsub152
 have nm154 : b125 ∉ M := fun h => nm131 (hsub152 _ h)
 have R155 : Sl Kd.str M w144 (some ⟨b125, 0, none⟩) [[65, 110, 110]] := Sl.one (K := Kd.str) (x := [65, 110, 110]) B149 nm154 ⟨rfl, by decide⟩
 exact ⟨_, rfl, hE148, _, rfl, ⟨_, _, _, _, _, _, _, _, rfl, ann_R R155⟩⟩
noncomputable def c14n : Code := bodyOf Tryz.f14
noncomputable def c14n_0 : Code := kid 0 c14n
noncomputable def o14n_0 : Array Oper := regOps c14n_0
noncomputable def c14n_1 : Code := kid 1 c14n
noncomputable def c14n_1_0 : Code := kid 0 c14n_1
noncomputable def c14n_1_0_0 : Code := kid 0 c14n_1_0
noncomputable def o14n_1_0_0 : Array Oper := regOps c14n_1_0_0
noncomputable def c14n_1_0_1 : Code := kid 1 c14n_1_0
noncomputable def c14n_n6 : Code := kid 0 c14n_1_0_1
noncomputable def c14n_n7 : Code := kid 0 c14n_n6
noncomputable def o14n_n7 : Array Oper := regOps c14n_n7
noncomputable def c14n_n8 : Code := kid 1 c14n_n6
noncomputable def c14n_n9 : Code := kid 1 c14n_1_0_1
noncomputable def c14n_1_1 : Code := kid 1 c14n_1
set_option maxHeartbeats 400000 in
theorem card_nil (q : Str) (w : World)   : Calls Tryz.prog 14 #[.pointer none, sv q] w (RetW [] w fun v _ => v = .tuple #[.agg #[sv [], sv [], .slice none 0 0, .slice none 0 0, .slice none 0 0, .slice none 0 0, .slice none 0 0, .slice none 0 0, .slice none 0 0, .slice none 0 0], .bool false]) := by
 refine calls_of_S (n := 24) (c := c14n) Tryz.func14 (by kernel_rfl) (by kernel_rfl) (Nat.le_of_ble_eq_true (by kernel_rfl)) ?_
 have hE0 : Eff [] w w := Eff.refl _ _
 refine S.seq (x := c14n_0) (y := c14n_1) (by kernel_rfl) ?_
 refine S.reg (ops := o14n_0) (js := [0, 1]) (by kernel_rfl) (by kernel_rfl) ?_
 refine L.alloc [sv [], sv [], .slice none 0 0, .slice none 0 0, .slice none 0 0, .slice none 0 0, .slice none 0 0, .slice none 0 0, .slice none 0 0, .slice none 0 0] (by kernel_rfl : lookAt _ _ _ _ = some ((Op.alloc 40), some 4)) (by kernel_rfl) ?_
 intro b101 w102 hs103 hz104 E105 B106
 have hE107 := hE0.and0 E105
 have := E105.size
 have hM108 : Mok ([b101] ++ []) w102 := (Mok.nil _).step E105 (nNew (flt1 (b := b101) (by omega)) same)
 refine L.runU [1] [] [(5, .bool false)] (by kernel_rfl) (by kernel_rfl) ?_
 refine L.done ?_
 show S _ _ _ c14n_1 _ _ _ _
 refine S.seq (x := c14n_1_0) (y := c14n_1_1) (by kernel_rfl) ?_
 refine S.seq (x := c14n_1_0_0) (y := c14n_1_0_1) (by kernel_rfl) ?_
 refine S.reg (ops := o14n_1_0_0) (js := [0, 1]) (by kernel_rfl) (by kernel_rfl) ?_
 refine L.runU [0] [1] [(8, .pointer none)] (by kernel_rfl) (by kernel_rfl) ?_
 refine L.call (f := 40) (by kernel_rfl : lookAt _ _ _ _ = some ((Op.call { callee := (Callee.value (Operand.func 40)), args := #[(Operand.tmp 8)], argTypes := #[25] }), some 9)) e40 (by kernel_rfl) (none_nil _) ?_
 rintro _ w110 E111 rfl
 have hE113 := hE107.and0 E111
 have := E111.size
 have B114 := B106.eff0 E111
 have hM115 := hM108.eff E111
 refine L.done ?_
 show S _ _ _ c14n_1_0_1 _ _ _ _
 refine S.condT (o := (Operand.tmp 9)) (x := c14n_n6) (y := c14n_n9) (by kernel_rfl) (by kernel_rfl) ?_
 refine S.seq (x := c14n_n7) (y := c14n_n8) (by kernel_rfl) ?_
 refine S.reg (ops := o14n_n7) (js := [0, 1, 2]) (by kernel_rfl) (by kernel_rfl) ?_
 refine L.runU [0] [1, 2] [(10, .agg #[sv [], sv [], .slice none 0 0, .slice none 0 0, .slice none 0 0, .slice none 0 0, .slice none 0 0, .slice none 0 0, .slice none 0 0, .slice none 0 0])] (by kernel_rfl) (by kernel_rfl) ?_
 refine L.store 0 [sv [], sv [], .slice none 0 0, .slice none 0 0, .slice none 0 0, .slice none 0 0, .slice none 0 0, .slice none 0 0, .slice none 0 0, .slice none 0 0] [sv [], sv [], .slice none 0 0, .slice none 0 0, .slice none 0 0, .slice none 0 0, .slice none 0 0, .slice none 0 0, .slice none 0 0, .slice none 0 0] (by kernel_rfl : lookAt _ _ _ _ = some ((Op.store 40 (Operand.tmp 4) (Operand.tmp 10)), none)) (by kernel_rfl) B114 (by kernel_rfl) (by kernel_rfl) (by kernel_rfl) (one_of_all (by kernel_rfl)) (by kernel_rfl) ?_
 intro w116 E117 hz118 B119
 have hE120 := hE113.and1 E117 (by omega)
 have := E117.size
 have hM121 := hM115.eff E117
 refine L.runU [2] [] [(5, .bool false)] (by kernel_rfl) (by kernel_rfl) ?_
 refine L.done ?_
 show S _ _ _ c14n_n8 _ _ _ _
 refine S.ret (by kernel_rfl) ?_
 show Leave _ _ _ _ _ _ _ _
 refine Leave.ret2 (x := .cell 4 40) (y := .tmp 5) (.agg #[sv [], sv [], .slice none 0 0, .slice none 0 0, .slice none 0 0, .slice none 0 0, .slice none 0 0, .slice none 0 0, .slice none 0 0, .slice none 0 0]) (.bool false) (by kernel_rfl) (.ofC 0 (by kernel_rfl) B119.cells (by kernel_rfl)) (.ofT (by kernel_rfl)) ?_
 refine ⟨_, rfl, hE120, ?_⟩
 rfl
noncomputable def c15z : Code := bodyOf Tryz.f15
noncomputable def c15z_0 : Code := kid 0 c15z
noncomputable def o15z_0 : Array Oper := regOps c15z_0
noncomputable def c15z_1 : Code := kid 1 c15z
noncomputable def c15z_1_0 : Code := kid 0 c15z_1
noncomputable def c15z_1_0_0 : Code := kid 0 c15z_1_0
noncomputable def o15z_1_0_0 : Array Oper := regOps c15z_1_0_0
noncomputable def c15z_1_0_1 : Code := kid 1 c15z_1_0
noncomputable def c15z_n6 : Code := kid 0 c15z_1_0_1
noncomputable def c15z_n7 : Code := kid 0 c15z_n6
noncomputable def o15z_n7 : Array Oper := regOps c15z_n7
noncomputable def c15z_n8 : Code := kid 1 c15z_n6
noncomputable def c15z_n9 : Code := kid 1 c15z_1_0_1
noncomputable def c15z_1_1 : Code := kid 1 c15z_1
set_option maxHeartbeats 400000 in
theorem entry_nil (pb : Nat) (q : Str) (w : World) (hB : Blk w pb [.map none, .map none, .pointer none] 59)  : Calls Tryz.prog 15 #[.pointer (some ⟨pb, 0, none⟩), sv q] w (RetW [] w fun v _ => v = .tuple #[.agg #[sv [], sv [], .slice none 0 0, .slice none 0 0, .slice none 0 0, .slice none 0 0, .slice none 0 0, .slice none 0 0, .slice none 0 0, .slice none 0 0], .bool false]) := by
 refine calls_of_S (n := 20) (c := c15z) Tryz.func15 (by kernel_rfl) (by kernel_rfl) (Nat.le_of_ble_eq_true (by kernel_rfl)) ?_
 have := hB.lt
 have hE0 : Eff [] w w := Eff.refl _ _
 refine S.seq (x := c15z_0) (y := c15z_1) (by kernel_rfl) ?_
 refine S.reg (ops := o15z_0) (js := [0, 1]) (by kernel_rfl) (by kernel_rfl) ?_
 refine L.alloc [sv [], sv [], .slice none 0 0, .slice none 0 0, .slice none 0 0, .slice none 0 0, .slice none 0 0, .slice none 0 0, .slice none 0 0, .slice none 0 0] (by kernel_rfl : lookAt _ _ _ _ = some ((Op.alloc 40), some 4)) (by kernel_rfl) ?_
 intro b101 w102 hs103 hz104 E105 B106
 have hE107 := hE0.and0 E105
 have := E105.size
 have nm109 := ninN List.not_mem_nil hB.lt (nNew (fresh1 hs103) same)
 have B108 := hB.eff0 E105
 have hM110 : Mok ([b101] ++ []) w102 := (Mok.nil _).step E105 (nNew (flt1 (b := b101) (by omega)) same)
 refine L.runU [1] [] [(5, .bool false)] (by kernel_rfl) (by kernel_rfl) ?_
 refine L.done ?_
 show S _ _ _ c15z_1 _ _ _ _
 refine S.seq (x := c15z_1_0) (y := c15z_1_1) (by kernel_rfl) ?_
 refine S.seq (x := c15z_1_0_0) (y := c15z_1_0_1) (by kernel_rfl) ?_
 refine S.reg (ops := o15z_1_0_0) (js := [0, 1]) (by kernel_rfl) (by kernel_rfl) ?_
 refine L.runU [0] [1] [(6, .pointer (some ⟨pb, 0, none⟩))] (by kernel_rfl) (by kernel_rfl) ?_
 refine L.call (f := 40) (by kernel_rfl : lookAt _ _ _ _ = some ((Op.call { callee := (Callee.value (Operand.func 40)), args := #[(Operand.tmp 6)], argTypes := #[25] }), some 7)) e40 (by kernel_rfl) (none_z pb (.map none) (.pointer none) _ B108) ?_
 rintro _ w112 E113 rfl
 have hE115 := hE107.and0 E113
 have := E113.size
 have B116 := B108.eff0 E113
 have B117 := B106.eff0 E113
 have hM118 := hM110.eff E113
 refine L.done ?_
 show S _ _ _ c15z_1_0_1 _ _ _ _
 refine S.condT (o := (Operand.tmp 7)) (x := c15z_n6) (y := c15z_n9) (by kernel_rfl) (by kernel_rfl) ?_
 refine S.seq (x := c15z_n7) (y := c15z_n8) (by kernel_rfl) ?_
 refine S.reg (ops := o15z_n7) (js := [0, 1, 2]) (by kernel_rfl) (by kernel_rfl) ?_
 refine L.runU [0] [1, 2] [(8, .agg #[sv [], sv [], .slice none 0 0, .slice none 0 0, .slice none 0 0, .slice none 0 0, .slice none 0 0, .slice none 0 0, .slice none 0 0, .slice none 0 0])] (by kernel_rfl) (by kernel_rfl) ?_
 refine L.store 0 [sv [], sv [], .slice none 0 0, .slice none 0 0, .slice none 0 0, .slice none 0 0, .slice none 0 0, .slice none 0 0, .slice none 0 0, .slice none 0 0] [sv [], sv [], .slice none 0 0, .slice none 0 0, .slice none 0 0, .slice none 0 0, .slice none 0 0, .slice none 0 0, .slice none 0 0, .slice none 0 0] (by kernel_rfl : lookAt _ _ _ _ = some ((Op.store 40 (Operand.tmp 4) (Operand.tmp 8)), none)) (by kernel_rfl) B117 (by kernel_rfl) (by kernel_rfl) (by kernel_rfl) (one_of_all (by kernel_rfl)) (by kernel_rfl) ?_
 intro w119 E120 hz121 B122
 have hE123 := hE115.and1 E120 (by omega)
 have := E120.size
 have B124 := B116.eff1 E120 (by omega)
 have hM125 := hM118.eff E120
 refine L.runU [2] [] [(5, .bool false)] (by kernel_rfl) (by kernel_rfl) ?_
 refine L.done ?_
 show S _ _ _ c15z_n8 _ _ _ _
 refine S.ret (by kernel_rfl) ?_
 show Leave _ _ _ _ _ _ _ _
 refine Leave.ret2 (x := .cell 4 40) (y := .tmp 5) (.agg #[sv [], sv [], .slice none 0 0, .slice none 0 0, .slice none 0 0, .slice none 0 0, .slice none 0 0, .slice none 0 0, .slice none 0 0, .slice none 0 0]) (.bool false) (by kernel_rfl) (.ofC 0 (by kernel_rfl) B122.cells (by kernel_rfl)) (.ofT (by kernel_rfl)) ?_
 refine ⟨_, rfl, hE123, ?_⟩
 rfl
noncomputable def c23n : Code := bodyOf Tryz.f23
noncomputable def c23n_0 : Code := kid 0 c23n
noncomputable def o23n_0 : Array Oper := regOps c23n_0
noncomputable def c23n_1 : Code := kid 1 c23n
noncomputable def c23n_1_0 : Code := kid 0 c23n_1
noncomputable def c23n_1_0_0 : Code := kid 0 c23n_1_0
noncomputable def o23n_1_0_0 : Array Oper := regOps c23n_1_0_0
noncomputable def c23n_1_0_1 : Code := kid 1 c23n_1_0
noncomputable def c23n_n6 : Code := kid 0 c23n_1_0_1
noncomputable def c23n_n7 : Code := kid 0 c23n_n6
noncomputable def o23n_n7 : Array Oper := regOps c23n_n7
noncomputable def c23n_n8 : Code := kid 1 c23n_n6
noncomputable def c23n_n9 : Code := kid 1 c23n_1_0_1
noncomputable def c23n_1_1 : Code := kid 1 c23n_1
set_option maxHeartbeats 400000 in
theorem promised_nil  (w : World)   : Calls Tryz.prog 23 #[.pointer none] w (RetW [] w fun v _ => v = .tuple #[.agg #[sv [], sv [], .slice none 0 0, .slice none 0 0, .slice none 0 0, .slice none 0 0, .slice none 0 0, .slice none 0 0, .slice none 0 0, .slice none 0 0, .slice none 0 0], .bool false]) := by
 refine calls_of_S (n := 21) (c := c23n) Tryz.func23 (by kernel_rfl) (by kernel_rfl) (Nat.le_of_ble_eq_true (by kernel_rfl)) ?_
 have hE0 : Eff [] w w := Eff.refl _ _
 refine S.seq (x := c23n_0) (y := c23n_1) (by kernel_rfl) ?_
 refine S.reg (ops := o23n_0) (js := [0, 1]) (by kernel_rfl) (by kernel_rfl) ?_
 refine L.alloc [sv [], sv [], .slice none 0 0, .slice none 0 0, .slice none 0 0, .slice none 0 0, .slice none 0 0, .slice none 0 0, .slice none 0 0, .slice none 0 0, .slice none 0 0] (by kernel_rfl : lookAt _ _ _ _ = some ((Op.alloc 34), some 2)) (by kernel_rfl) ?_
 intro b101 w102 hs103 hz104 E105 B106
 have hE107 := hE0.and0 E105
 have := E105.size
 have hM108 : Mok ([b101] ++ []) w102 := (Mok.nil _).step E105 (nNew (flt1 (b := b101) (by omega)) same)
 refine L.runU [1] [] [(3, .bool false)] (by kernel_rfl) (by kernel_rfl) ?_
 refine L.done ?_
 show S _ _ _ c23n_1 _ _ _ _
 refine S.seq (x := c23n_1_0) (y := c23n_1_1) (by kernel_rfl) ?_
 refine S.seq (x := c23n_1_0_0) (y := c23n_1_0_1) (by kernel_rfl) ?_
 refine S.reg (ops := o23n_1_0_0) (js := [0, 1, 2, 3, 4, 5, 6, 7, 8]) (by kernel_rfl) (by kernel_rfl) ?_
 refine L.runU [0] [1, 2, 3, 4, 5, 6, 7, 8] [(4, .pointer none)] (by kernel_rfl) (by kernel_rfl) ?_
 refine L.call (f := 40) (by kernel_rfl : lookAt _ _ _ _ = some ((Op.call { callee := (Callee.value (Operand.func 40)), args := #[(Operand.tmp 4)], argTypes := #[25] }), some 5)) e40 (by kernel_rfl) (none_nil _) ?_
 rintro _ w110 E111 rfl
 have hE113 := hE107.and0 E111
 have := E111.size
 have B114 := B106.eff0 E111
 have hM115 := hM108.eff E111
 refine L.runU [2, 3, 4, 5, 6, 7, 8] [] [(6, .bool true), (7, undef), (8, undef), (9, undef), (10, undef), (11, undef), (12, .bool true)] (by kernel_rfl) (by kernel_rfl) ?_
 refine L.done ?_
 show S _ _ _ c23n_1_0_1 _ _ _ _
 refine S.condT (o := (Operand.tmp 12)) (x := c23n_n6) (y := c23n_n9) (by kernel_rfl) (by kernel_rfl) ?_
 refine S.seq (x := c23n_n7) (y := c23n_n8) (by kernel_rfl) ?_
 refine S.reg (ops := o23n_n7) (js := [0, 1, 2]) (by kernel_rfl) (by kernel_rfl) ?_
 refine L.runU [0] [1, 2] [(13, .agg #[sv [], sv [], .slice none 0 0, .slice none 0 0, .slice none 0 0, .slice none 0 0, .slice none 0 0, .slice none 0 0, .slice none 0 0, .slice none 0 0, .slice none 0 0])] (by kernel_rfl) (by kernel_rfl) ?_
 refine L.store 0 [sv [], sv [], .slice none 0 0, .slice none 0 0, .slice none 0 0, .slice none 0 0, .slice none 0 0, .slice none 0 0, .slice none 0 0, .slice none 0 0, .slice none 0 0] [sv [], sv [], .slice none 0 0, .slice none 0 0, .slice none 0 0, .slice none 0 0, .slice none 0 0, .slice none 0 0, .slice none 0 0, .slice none 0 0, .slice none 0 0] (by kernel_rfl : lookAt _ _ _ _ = some ((Op.store 34 (Operand.tmp 2) (Operand.tmp 13)), none)) (by kernel_rfl) B114 (by kernel_rfl) (by kernel_rfl) (by kernel_rfl) (one_of_all (by kernel_rfl)) (by kernel_rfl) ?_
 intro w116 E117 hz118 B119
 have hE120 := hE113.and1 E117 (by omega)
 have := E117.size
 have hM121 := hM115.eff E117
 refine L.runU [2] [] [(3, .bool false)] (by kernel_rfl) (by kernel_rfl) ?_
 refine L.done ?_
 show S _ _ _ c23n_n8 _ _ _ _
 refine S.ret (by kernel_rfl) ?_
 show Leave _ _ _ _ _ _ _ _
 refine Leave.ret2 (x := .cell 2 34) (y := .tmp 3) (.agg #[sv [], sv [], .slice none 0 0, .slice none 0 0, .slice none 0 0, .slice none 0 0, .slice none 0 0, .slice none 0 0, .slice none 0 0, .slice none 0 0, .slice none 0 0]) (.bool false) (by kernel_rfl) (.ofC 0 (by kernel_rfl) B119.cells (by kernel_rfl)) (.ofT (by kernel_rfl)) ?_
 refine ⟨_, rfl, hE120, ?_⟩
 rfl
noncomputable def c23z : Code := bodyOf Tryz.f23
noncomputable def c23z_0 : Code := kid 0 c23z
noncomputable def o23z_0 : Array Oper := regOps c23z_0
noncomputable def c23z_1 : Code := kid 1 c23z
noncomputable def c23z_1_0 : Code := kid 0 c23z_1
noncomputable def c23z_1_0_0 : Code := kid 0 c23z_1_0
noncomputable def o23z_1_0_0 : Array Oper := regOps c23z_1_0_0
noncomputable def c23z_1_0_1 : Code := kid 1 c23z_1_0
noncomputable def c23z_n6 : Code := kid 0 c23z_1_0_1
noncomputable def c23z_n7 : Code := kid 0 c23z_n6
noncomputable def o23z_n7 : Array Oper := regOps c23z_n7
noncomputable def c23z_n8 : Code := kid 1 c23z_n6
noncomputable def c23z_n9 : Code := kid 1 c23z_1_0_1
noncomputable def c23z_1_1 : Code := kid 1 c23z_1
set_option maxHeartbeats 400000 in
theorem promised_z (pb : Nat)  (w : World) (hB : Blk w pb [.map none, .map none, .pointer none] 59)  : Calls Tryz.prog 23 #[.pointer (some ⟨pb, 0, none⟩)] w (RetW [] w fun v _ => v = .tuple #[.agg #[sv [], sv [], .slice none 0 0, .slice none 0 0, .slice none 0 0, .slice none 0 0, .slice none 0 0, .slice none 0 0, .slice none 0 0, .slice none 0 0, .slice none 0 0], .bool false]) := by
 refine calls_of_S (n := 21) (c := c23z) Tryz.func23 (by kernel_rfl) (by kernel_rfl) (Nat.le_of_ble_eq_true (by kernel_rfl)) ?_
 have := hB.lt
 have hE0 : Eff [] w w := Eff.refl _ _
 refine S.seq (x := c23z_0) (y := c23z_1) (by kernel_rfl) ?_
 refine S.reg (ops := o23z_0) (js := [0, 1]) (by kernel_rfl) (by kernel_rfl) ?_
 refine L.alloc [sv [], sv [], .slice none 0 0, .slice none 0 0, .slice none 0 0, .slice none 0 0, .slice none 0 0, .slice none 0 0, .slice none 0 0, .slice none 0 0, .slice none 0 0] (by kernel_rfl : lookAt _ _ _ _ = some ((Op.alloc 34), some 2)) (by kernel_rfl) ?_
 intro b101 w102 hs103 hz104 E105 B106
 have hE107 := hE0.and0 E105
 have := E105.size
 have nm109 := ninN List.not_mem_nil hB.lt (nNew (fresh1 hs103) same)
 have B108 := hB.eff0 E105
 have hM110 : Mok ([b101] ++ []) w102 := (Mok.nil _).step E105 (nNew (flt1 (b := b101) (by omega)) same)
 refine L.runU [1] [] [(3, .bool false)] (by kernel_rfl) (by kernel_rfl) ?_
 refine L.done ?_
 show S _ _ _ c23z_1 _ _ _ _
 refine S.seq (x := c23z_1_0) (y := c23z_1_1) (by kernel_rfl) ?_
 refine S.seq (x := c23z_1_0_0) (y := c23z_1_0_1) (by kernel_rfl) ?_
 refine S.reg (ops := o23z_1_0_0) (js := [0, 1, 2, 3, 4, 5, 6, 7, 8]) (by kernel_rfl) (by kernel_rfl) ?_
 refine L.runU [0] [1, 2, 3, 4, 5, 6, 7, 8] [(4, .pointer (some ⟨pb, 0, none⟩))] (by kernel_rfl) (by kernel_rfl) ?_
 refine L.call (f := 40) (by kernel_rfl : lookAt _ _ _ _ = some ((Op.call { callee := (Callee.value (Operand.func 40)), args := #[(Operand.tmp 4)], argTypes := #[25] }), some 5)) e40 (by kernel_rfl) (none_z pb (.map none) (.pointer none) _ B108) ?_
 rintro _ w112 E113 rfl
 have hE115 := hE107.and0 E113
 have := E113.size
 have B116 := B108.eff0 E113
 have B117 := B106.eff0 E113
 have hM118 := hM110.eff E113
 refine L.runU [2, 3, 4, 5, 6, 7, 8] [] [(6, .bool true), (7, undef), (8, undef), (9, undef), (10, undef), (11, undef), (12, .bool true)] (by kernel_rfl) (by kernel_rfl) ?_
 refine L.done ?_
 show S _ _ _ c23z_1_0_1 _ _ _ _
 refine S.condT (o := (Operand.tmp 12)) (x := c23z_n6) (y := c23z_n9) (by kernel_rfl) (by kernel_rfl) ?_
 refine S.seq (x := c23z_n7) (y := c23z_n8) (by kernel_rfl) ?_
 refine S.reg (ops := o23z_n7) (js := [0, 1, 2]) (by kernel_rfl) (by kernel_rfl) ?_
 refine L.runU [0] [1, 2] [(13, .agg #[sv [], sv [], .slice none 0 0, .slice none 0 0, .slice none 0 0, .slice none 0 0, .slice none 0 0, .slice none 0 0, .slice none 0 0, .slice none 0 0, .slice none 0 0])] (by kernel_rfl) (by kernel_rfl) ?_
 refine L.store 0 [sv [], sv [], .slice none 0 0, .slice none 0 0, .slice none 0 0, .slice none 0 0, .slice none 0 0, .slice none 0 0, .slice none 0 0, .slice none 0 0, .slice none 0 0] [sv [], sv [], .slice none 0 0, .slice none 0 0, .slice none 0 0, .slice none 0 0, .slice none 0 0, .slice none 0 0, .slice none 0 0, .slice none 0 0, .slice none 0 0] (by kernel_rfl : lookAt _ _ _ _ = some ((Op.store 34 (Operand.tmp 2) (Operand.tmp 13)), none)) (by kernel_rfl) B117 (by kernel_rfl) (by kernel_rfl) (by kernel_rfl) (one_of_all (by kernel_rfl)) (by kernel_rfl) ?_
 intro w119 E120 hz121 B122
 have hE123 := hE115.and1 E120 (by omega)
 have := E120.size
 have B124 := B116.eff1 E120 (by omega)
 have hM125 := hM118.eff E120
 refine L.runU [2] [] [(3, .bool false)] (by kernel_rfl) (by kernel_rfl) ?_
 refine L.done ?_
 show S _ _ _ c23z_n8 _ _ _ _
 refine S.ret (by kernel_rfl) ?_
 show Leave _ _ _ _ _ _ _ _
 refine Leave.ret2 (x := .cell 2 34) (y := .tmp 3) (.agg #[sv [], sv [], .slice none 0 0, .slice none 0 0, .slice none 0 0, .slice none 0 0, .slice none 0 0, .slice none 0 0, .slice none 0 0, .slice none 0 0, .slice none 0 0]) (.bool false) (by kernel_rfl) (.ofC 0 (by kernel_rfl) B122.cells (by kernel_rfl)) (.ofT (by kernel_rfl)) ?_
 refine ⟨_, rfl, hE123, ?_⟩
 rfl
noncomputable def c24n : Code := bodyOf Tryz.f24
noncomputable def c24n_0 : Code := kid 0 c24n
noncomputable def o24n_0 : Array Oper := regOps c24n_0
noncomputable def c24n_1 : Code := kid 1 c24n
noncomputable def c24n_1_0 : Code := kid 0 c24n_1
noncomputable def o24n_1_0 : Array Oper := regOps c24n_1_0
noncomputable def c24n_1_1 : Code := kid 1 c24n_1
noncomputable def c24n_1_1_0 : Code := kid 0 c24n_1_1
noncomputable def c24n_n6 : Code := kid 0 c24n_1_1_0
noncomputable def o24n_n6 : Array Oper := regOps c24n_n6
noncomputable def c24n_n7 : Code := kid 1 c24n_1_1_0
noncomputable def c24n_n8 : Code := kid 0 c24n_n7
noncomputable def c24n_n24 : Code := kid 1 c24n_n7
noncomputable def c24n_1_1_1 : Code := kid 1 c24n_1_1
noncomputable def c24n_n26 : Code := kid 0 c24n_1_1_1
noncomputable def o24n_n26 : Array Oper := regOps c24n_n26
noncomputable def c24n_n27 : Code := kid 1 c24n_1_1_1
set_option maxHeartbeats 400000 in
theorem all_nil  (w : World)   : Calls Tryz.prog 24 #[.pointer none] w (RetW [] w fun v w' => ∃ b, v = .func (.func 49) #[] #[.pointer (some ⟨b, 0, none⟩)] ∧ Blk w' b [.slice none 0 0] 27 ∧ w.heap.size ≤ b) := by
 refine calls_of_S (n := 34) (c := c24n) Tryz.func24 (by kernel_rfl) (by kernel_rfl) (Nat.le_of_ble_eq_true (by kernel_rfl)) ?_
 have hE0 : Eff [] w w := Eff.refl _ _
 refine S.seq (x := c24n_0) (y := c24n_1) (by kernel_rfl) ?_
 refine S.reg (ops := o24n_0) (js := [0]) (by kernel_rfl) (by kernel_rfl) ?_
 refine L.runU [0] [] [(2, .nilFunc)] (by kernel_rfl) (by kernel_rfl) ?_
 refine L.done ?_
 show S _ _ _ c24n_1 _ _ _ _
 refine S.seq (x := c24n_1_0) (y := c24n_1_1) (by kernel_rfl) ?_
 refine S.reg (ops := o24n_1_0) (js := [0]) (by kernel_rfl) (by kernel_rfl) ?_
 refine L.alloc [.slice none 0 0] (by kernel_rfl : lookAt _ _ _ _ = some ((Op.alloc 27), some 3)) (by kernel_rfl) ?_
 intro b101 w102 hs103 hz104 E105 B106
 have hE107 := hE0.and0 E105
 have := E105.size
 have hM108 : Mok ([b101] ++ []) w102 := (Mok.nil _).step E105 (nNew (flt1 (b := b101) (by omega)) same)
 refine L.done ?_
 show S _ _ _ c24n_1_1 _ _ _ _
 refine S.seq (x := c24n_1_1_0) (y := c24n_1_1_1) (by kernel_rfl) ?_
 refine S.seq (x := c24n_n6) (y := c24n_n7) (by kernel_rfl) ?_
 refine S.reg (ops := o24n_n6) (js := [0, 1, 2]) (by kernel_rfl) (by kernel_rfl) ?_
 refine L.runU [0] [1, 2] [(6, .pointer none)] (by kernel_rfl) (by kernel_rfl) ?_
 refine L.call (f := 40) (by kernel_rfl : lookAt _ _ _ _ = some ((Op.call { callee := (Callee.value (Operand.func 40)), args := #[(Operand.tmp 6)], argTypes := #[25] }), some 7)) e40 (by kernel_rfl) (none_nil _) ?_
 rintro _ w110 E111 rfl
 have hE113 := hE107.and0 E111
 have := E111.size
 have B114 := B106.eff0 E111
 have hM115 := hM108.eff E111
 refine L.runU [2] [] [(8, .bool false)] (by kernel_rfl) (by kernel_rfl) ?_
 refine L.done ?_
 show S _ _ _ c24n_n7 _ _ _ _
 refine S.condF (o := (Operand.tmp 8)) (x := c24n_n8) (y := c24n_n24) (by kernel_rfl) (by kernel_rfl) ?_
 refine S.skip (by kernel_rfl) ?_
 show S _ _ _ c24n_1_1_1 _ _ _ _
 refine S.seq (x := c24n_n26) (y := c24n_n27) (by kernel_rfl) ?_
 refine S.reg (ops := o24n_n26) (js := [0, 1]) (by kernel_rfl) (by kernel_rfl) ?_
 refine L.runU [0, 1] [] [(33, .func (.func 49) #[] #[.pointer (some ⟨b101, 0, none⟩)]), (2, .func (.func 49) #[] #[.pointer (some ⟨b101, 0, none⟩)])] (by kernel_rfl) (by kernel_rfl) ?_
 refine L.done ?_
 show S _ _ _ c24n_n27 _ _ _ _
 refine S.ret (by kernel_rfl) ?_
 show Leave _ _ _ _ _ _ _ _
 refine Leave.ret1 (x := .tmp 2) (.func (.func 49) #[] #[.pointer (some ⟨b101, 0, none⟩)]) (by kernel_rfl) (.ofT (by kernel_rfl)) ?_
 exact ⟨_, rfl, hE113, _, rfl, B114, by omega⟩
noncomputable def c24z : Code := bodyOf Tryz.f24
noncomputable def c24z_0 : Code := kid 0 c24z
noncomputable def o24z_0 : Array Oper := regOps c24z_0
noncomputable def c24z_1 : Code := kid 1 c24z
noncomputable def c24z_1_0 : Code := kid 0 c24z_1
noncomputable def o24z_1_0 : Array Oper := regOps c24z_1_0
noncomputable def c24z_1_1 : Code := kid 1 c24z_1
noncomputable def c24z_1_1_0 : Code := kid 0 c24z_1_1
noncomputable def c24z_n6 : Code := kid 0 c24z_1_1_0
noncomputable def o24z_n6 : Array Oper := regOps c24z_n6
noncomputable def c24z_n7 : Code := kid 1 c24z_1_1_0
noncomputable def c24z_n8 : Code := kid 0 c24z_n7
noncomputable def c24z_n24 : Code := kid 1 c24z_n7
noncomputable def c24z_1_1_1 : Code := kid 1 c24z_1_1
noncomputable def c24z_n26 : Code := kid 0 c24z_1_1_1
noncomputable def o24z_n26 : Array Oper := regOps c24z_n26
noncomputable def c24z_n27 : Code := kid 1 c24z_1_1_1
set_option maxHeartbeats 400000 in
theorem all_z (pb : Nat)  (w : World) (hB : Blk w pb [.map none, .map none, .pointer none] 59)  : Calls Tryz.prog 24 #[.pointer (some ⟨pb, 0, none⟩)] w (RetW [] w fun v w' => ∃ b, v = .func (.func 49) #[] #[.pointer (some ⟨b, 0, none⟩)] ∧ Blk w' b [.slice none 0 0] 27 ∧ w.heap.size ≤ b) := by
 refine calls_of_S (n := 34) (c := c24z) Tryz.func24 (by kernel_rfl) (by kernel_rfl) (Nat.le_of_ble_eq_true (by kernel_rfl)) ?_
 have := hB.lt
 have hE0 : Eff [] w w := Eff.refl _ _
 refine S.seq (x := c24z_0) (y := c24z_1) (by kernel_rfl) ?_
 refine S.reg (ops := o24z_0) (js := [0]) (by kernel_rfl) (by kernel_rfl) ?_
 refine L.runU [0] [] [(2, .nilFunc)] (by kernel_rfl) (by kernel_rfl) ?_
 refine L.done ?_
 show S _ _ _ c24z_1 _ _ _ _
 refine S.seq (x := c24z_1_0) (y := c24z_1_1) (by kernel_rfl) ?_
 refine S.reg (ops := o24z_1_0) (js := [0]) (by kernel_rfl) (by kernel_rfl) ?_
 refine L.alloc [.slice none 0 0] (by kernel_rfl : lookAt _ _ _ _ = some ((Op.alloc 27), some 3)) (by kernel_rfl) ?_
 intro b101 w102 hs103 hz104 E105 B106
 have hE107 := hE0.and0 E105
 have := E105.size
 have nm109 := ninN List.not_mem_nil hB.lt (nNew (fresh1 hs103) same)
 have B108 := hB.eff0 E105
 have hM110 : Mok ([b101] ++ []) w102 := (Mok.nil _).step E105 (nNew (flt1 (b := b101) (by omega)) same)
 refine L.done ?_
 show S _ _ _ c24z_1_1 _ _ _ _
 refine S.seq (x := c24z_1_1_0) (y := c24z_1_1_1) (by kernel_rfl) ?_
 refine S.seq (x := c24z_n6) (y := c24z_n7) (by kernel_rfl) ?_
 refine S.reg (ops := o24z_n6) (js := [0, 1, 2]) (by kernel_rfl) (by kernel_rfl) ?_
 refine L.runU [0] [1, 2] [(6, .pointer (some ⟨pb, 0, none⟩))] (by kernel_rfl) (by kernel_rfl) ?_
 refine L.call (f := 40) (by kernel_rfl : lookAt _ _ _ _ = some ((Op.call { callee := (Callee.value (Operand.func 40)), args := #[(Operand.tmp 6)], argTypes := #[25] }), some 7)) e40 (by kernel_rfl) (none_z pb (.map none) (.pointer none) _ B108) ?_
 rintro _ w112 E113 rfl
 have hE115 := hE107.and0 E113
 have := E113.size
 have B116 := B108.eff0 E113
 have B117 := B106.eff0 E113
 have hM118 := hM110.eff E113
 refine L.runU [2] [] [(8, .bool false)] (by kernel_rfl) (by kernel_rfl) ?_
 refine L.done ?_
 show S _ _ _ c24z_n7 _ _ _ _
 refine S.condF (o := (Operand.tmp 8)) (x := c24z_n8) (y := c24z_n24) (by kernel_rfl) (by kernel_rfl) ?_
 refine S.skip (by kernel_rfl) ?_
 show S _ _ _ c24z_1_1_1 _ _ _ _
 refine S.seq (x := c24z_n26) (y := c24z_n27) (by kernel_rfl) ?_
 refine S.reg (ops := o24z_n26) (js := [0, 1]) (by kernel_rfl) (by kernel_rfl) ?_
 refine L.runU [0, 1] [] [(33, .func (.func 49) #[] #[.pointer (some ⟨b101, 0, none⟩)]), (2, .func (.func 49) #[] #[.pointer (some ⟨b101, 0, none⟩)])] (by kernel_rfl) (by kernel_rfl) ?_
 refine L.done ?_
 show S _ _ _ c24z_n27 _ _ _ _
 refine S.ret (by kernel_rfl) ?_
 show Leave _ _ _ _ _ _ _ _
 refine Leave.ret1 (x := .tmp 2) (.func (.func 49) #[] #[.pointer (some ⟨b101, 0, none⟩)]) (by kernel_rfl) (.ofT (by kernel_rfl)) ?_
 exact ⟨_, rfl, hE115, _, rfl, B117, by omega⟩
noncomputable def c26z : Code := bodyOf Tryz.f26
noncomputable def c26z_0 : Code := kid 0 c26z
noncomputable def o26z_0 : Array Oper := regOps c26z_0
noncomputable def c26z_1 : Code := kid 1 c26z
noncomputable def c26z_1_0 : Code := kid 0 c26z_1
noncomputable def c26z_1_0_0 : Code := kid 0 c26z_1_0
noncomputable def o26z_1_0_0 : Array Oper := regOps c26z_1_0_0
noncomputable def c26z_1_0_1 : Code := kid 1 c26z_1_0
noncomputable def c26z_n6 : Code := kid 0 c26z_1_0_1
noncomputable def c26z_n7 : Code := kid 0 c26z_n6
noncomputable def o26z_n7 : Array Oper := regOps c26z_n7
noncomputable def c26z_n8 : Code := kid 1 c26z_n6
noncomputable def c26z_n9 : Code := kid 1 c26z_1_0_1
noncomputable def c26z_1_1 : Code := kid 1 c26z_1
set_option maxHeartbeats 400000 in
theorem clear_nil (pb : Nat)  (w : World) (hB : Blk w pb [.map none, .map none, .pointer none] 59)  : Calls Tryz.prog 26 #[.pointer (some ⟨pb, 0, none⟩)] w (RetW [] w fun v _ => v = .int .i64 1) := by
 refine calls_of_S (n := 8) (c := c26z) Tryz.func26 (by kernel_rfl) (by kernel_rfl) (Nat.le_of_ble_eq_true (by kernel_rfl)) ?_
 have := hB.lt
 have hE0 : Eff [] w w := Eff.refl _ _
 refine S.seq (x := c26z_0) (y := c26z_1) (by kernel_rfl) ?_
 refine S.reg (ops := o26z_0) (js := [0]) (by kernel_rfl) (by kernel_rfl) ?_
 refine L.runU [0] [] [(2, .int .i64 0)] (by kernel_rfl) (by kernel_rfl) ?_
 refine L.done ?_
 show S _ _ _ c26z_1 _ _ _ _
 refine S.seq (x := c26z_1_0) (y := c26z_1_1) (by kernel_rfl) ?_
 refine S.seq (x := c26z_1_0_0) (y := c26z_1_0_1) (by kernel_rfl) ?_
 refine S.reg (ops := o26z_1_0_0) (js := [0, 1]) (by kernel_rfl) (by kernel_rfl) ?_
 refine L.runU [0] [1] [(3, .pointer (some ⟨pb, 0, none⟩))] (by kernel_rfl) (by kernel_rfl) ?_
 refine L.call (f := 40) (by kernel_rfl : lookAt _ _ _ _ = some ((Op.call { callee := (Callee.value (Operand.func 40)), args := #[(Operand.tmp 3)], argTypes := #[25] }), some 4)) e40 (by kernel_rfl) (none_z pb (.map none) (.pointer none) _ hB) ?_
 rintro _ w102 E103 rfl
 have hE105 := hE0.and0 E103
 have := E103.size
 have B106 := hB.eff0 E103
 have hM107 := (Mok.nil _).eff E103
 refine L.done ?_
 show S _ _ _ c26z_1_0_1 _ _ _ _
 refine S.condT (o := (Operand.tmp 4)) (x := c26z_n6) (y := c26z_n9) (by kernel_rfl) (by kernel_rfl) ?_
 refine S.seq (x := c26z_n7) (y := c26z_n8) (by kernel_rfl) ?_
 refine S.reg (ops := o26z_n7) (js := [0]) (by kernel_rfl) (by kernel_rfl) ?_
 refine L.runU [0] [] [(2, .int .i64 1)] (by kernel_rfl) (by kernel_rfl) ?_
 refine L.done ?_
 show S _ _ _ c26z_n8 _ _ _ _
 refine S.ret (by kernel_rfl) ?_
 show Leave _ _ _ _ _ _ _ _
 refine Leave.ret1 (x := .tmp 2) (.int .i64 1) (by kernel_rfl) (.ofT (by kernel_rfl)) ?_
 refine ⟨_, rfl, hE105, ?_⟩
 rfl
noncomputable def c30n : Code := bodyOf Tryz.f30
noncomputable def c30n_0 : Code := kid 0 c30n
noncomputable def o30n_0 : Array Oper := regOps c30n_0
noncomputable def c30n_1 : Code := kid 1 c30n
noncomputable def c30n_1_0 : Code := kid 0 c30n_1
noncomputable def c30n_1_0_0 : Code := kid 0 c30n_1_0
noncomputable def o30n_1_0_0 : Array Oper := regOps c30n_1_0_0
noncomputable def c30n_1_0_1 : Code := kid 1 c30n_1_0
noncomputable def c30n_n6 : Code := kid 0 c30n_1_0_1
noncomputable def c30n_n7 : Code := kid 0 c30n_n6
noncomputable def o30n_n7 : Array Oper := regOps c30n_n7
noncomputable def c30n_n8 : Code := kid 1 c30n_n6
noncomputable def c30n_n9 : Code := kid 1 c30n_1_0_1
noncomputable def c30n_1_1 : Code := kid 1 c30n_1
set_option maxHeartbeats 400000 in
theorem drop_nil (q : Str) (w : World)   : Calls Tryz.prog 30 #[.pointer none, sv q] w (RetW [] w fun v _ => v = .int .i64 1) := by
 refine calls_of_S (n := 27) (c := c30n) Tryz.func30 (by kernel_rfl) (by kernel_rfl) (Nat.le_of_ble_eq_true (by kernel_rfl)) ?_
 have hE0 : Eff [] w w := Eff.refl _ _
 refine S.seq (x := c30n_0) (y := c30n_1) (by kernel_rfl) ?_
 refine S.reg (ops := o30n_0) (js := [0]) (by kernel_rfl) (by kernel_rfl) ?_
 refine L.runU [0] [] [(4, .int .i64 0)] (by kernel_rfl) (by kernel_rfl) ?_
 refine L.done ?_
 show S _ _ _ c30n_1 _ _ _ _
 refine S.seq (x := c30n_1_0) (y := c30n_1_1) (by kernel_rfl) ?_
 refine S.seq (x := c30n_1_0_0) (y := c30n_1_0_1) (by kernel_rfl) ?_
 refine S.reg (ops := o30n_1_0_0) (js := [0, 1]) (by kernel_rfl) (by kernel_rfl) ?_
 refine L.runU [0] [1] [(7, .pointer none)] (by kernel_rfl) (by kernel_rfl) ?_
 refine L.call (f := 40) (by kernel_rfl : lookAt _ _ _ _ = some ((Op.call { callee := (Callee.value (Operand.func 40)), args := #[(Operand.tmp 7)], argTypes := #[25] }), some 8)) e40 (by kernel_rfl) (none_nil _) ?_
 rintro _ w102 E103 rfl
 have hE105 := hE0.and0 E103
 have := E103.size
 have hM106 := (Mok.nil _).eff E103
 refine L.done ?_
 show S _ _ _ c30n_1_0_1 _ _ _ _
 refine S.condT (o := (Operand.tmp 8)) (x := c30n_n6) (y := c30n_n9) (by kernel_rfl) (by kernel_rfl) ?_
 refine S.seq (x := c30n_n7) (y := c30n_n8) (by kernel_rfl) ?_
 refine S.reg (ops := o30n_n7) (js := [0]) (by kernel_rfl) (by kernel_rfl) ?_
 refine L.runU [0] [] [(4, .int .i64 1)] (by kernel_rfl) (by kernel_rfl) ?_
 refine L.done ?_
 show S _ _ _ c30n_n8 _ _ _ _
 refine S.ret (by kernel_rfl) ?_
 show Leave _ _ _ _ _ _ _ _
 refine Leave.ret1 (x := .tmp 4) (.int .i64 1) (by kernel_rfl) (.ofT (by kernel_rfl)) ?_
 refine ⟨_, rfl, hE105, ?_⟩
 rfl
noncomputable def c32n : Code := bodyOf Tryz.f32
noncomputable def c32n_0 : Code := kid 0 c32n
noncomputable def o32n_0 : Array Oper := regOps c32n_0
noncomputable def c32n_1 : Code := kid 1 c32n
noncomputable def c32n_1_0 : Code := kid 0 c32n_1
noncomputable def c32n_1_0_0 : Code := kid 0 c32n_1_0
noncomputable def o32n_1_0_0 : Array Oper := regOps c32n_1_0_0
noncomputable def c32n_1_0_1 : Code := kid 1 c32n_1_0
noncomputable def c32n_n6 : Code := kid 0 c32n_1_0_1
noncomputable def c32n_n7 : Code := kid 0 c32n_n6
noncomputable def o32n_n7 : Array Oper := regOps c32n_n7
noncomputable def c32n_n8 : Code := kid 1 c32n_n6
noncomputable def c32n_n9 : Code := kid 1 c32n_1_0_1
noncomputable def c32n_1_1 : Code := kid 1 c32n_1
set_option maxHeartbeats 400000 in
theorem len_nil  (w : World)   : Calls Tryz.prog 32 #[.pointer none] w (RetW [] w fun v _ => v = .int .i64 0) := by
 refine calls_of_S (n := 11) (c := c32n) Tryz.func32 (by kernel_rfl) (by kernel_rfl) (Nat.le_of_ble_eq_true (by kernel_rfl)) ?_
 have hE0 : Eff [] w w := Eff.refl _ _
 refine S.seq (x := c32n_0) (y := c32n_1) (by kernel_rfl) ?_
 refine S.reg (ops := o32n_0) (js := [0]) (by kernel_rfl) (by kernel_rfl) ?_
 refine L.runU [0] [] [(2, .int .i64 0)] (by kernel_rfl) (by kernel_rfl) ?_
 refine L.done ?_
 show S _ _ _ c32n_1 _ _ _ _
 refine S.seq (x := c32n_1_0) (y := c32n_1_1) (by kernel_rfl) ?_
 refine S.seq (x := c32n_1_0_0) (y := c32n_1_0_1) (by kernel_rfl) ?_
 refine S.reg (ops := o32n_1_0_0) (js := [0, 1]) (by kernel_rfl) (by kernel_rfl) ?_
 refine L.runU [0] [1] [(3, .pointer none)] (by kernel_rfl) (by kernel_rfl) ?_
 refine L.call (f := 40) (by kernel_rfl : lookAt _ _ _ _ = some ((Op.call { callee := (Callee.value (Operand.func 40)), args := #[(Operand.tmp 3)], argTypes := #[25] }), some 4)) e40 (by kernel_rfl) (none_nil _) ?_
 rintro _ w102 E103 rfl
 have hE105 := hE0.and0 E103
 have := E103.size
 have hM106 := (Mok.nil _).eff E103
 refine L.done ?_
 show S _ _ _ c32n_1_0_1 _ _ _ _
 refine S.condT (o := (Operand.tmp 4)) (x := c32n_n6) (y := c32n_n9) (by kernel_rfl) (by kernel_rfl) ?_
 refine S.seq (x := c32n_n7) (y := c32n_n8) (by kernel_rfl) ?_
 refine S.reg (ops := o32n_n7) (js := [0]) (by kernel_rfl) (by kernel_rfl) ?_
 refine L.runU [0] [] [(2, .int .i64 0)] (by kernel_rfl) (by kernel_rfl) ?_
 refine L.done ?_
 show S _ _ _ c32n_n8 _ _ _ _
 refine S.ret (by kernel_rfl) ?_
 show Leave _ _ _ _ _ _ _ _
 refine Leave.ret1 (x := .tmp 2) (.int .i64 0) (by kernel_rfl) (.ofT (by kernel_rfl)) ?_
 refine ⟨_, rfl, hE105, ?_⟩
 rfl
noncomputable def c27n : Code := bodyOf Tryz.f27
noncomputable def c27n_0 : Code := kid 0 c27n
noncomputable def o27n_0 : Array Oper := regOps c27n_0
noncomputable def c27n_1 : Code := kid 1 c27n
noncomputable def c27n_1_0 : Code := kid 0 c27n_1
noncomputable def c27n_1_0_0 : Code := kid 0 c27n_1_0
noncomputable def o27n_1_0_0 : Array Oper := regOps c27n_1_0_0
noncomputable def c27n_1_0_1 : Code := kid 1 c27n_1_0
noncomputable def c27n_n6 : Code := kid 0 c27n_1_0_1
noncomputable def c27n_n7 : Code := kid 0 c27n_n6
noncomputable def o27n_n7 : Array Oper := regOps c27n_n7
noncomputable def c27n_n8 : Code := kid 1 c27n_n6
noncomputable def c27n_n9 : Code := kid 0 c27n_n8
noncomputable def o27n_n9 : Array Oper := regOps c27n_n9
noncomputable def c27n_n10 : Code := kid 1 c27n_n8
noncomputable def c27n_n11 : Code := kid 0 c27n_n10
noncomputable def c27n_n12 : Code := kid 1 c27n_n10
noncomputable def c27n_n13 : Code := kid 1 c27n_1_0_1
noncomputable def c27n_n21 : Code := kid 1 c27n_n13
noncomputable def c27n_n29 : Code := kid 1 c27n_n21
noncomputable def c27n_n37 : Code := kid 1 c27n_n29
noncomputable def c27n_n39 : Code := kid 1 c27n_n37
noncomputable def c27n_n43 : Code := kid 1 c27n_n39
noncomputable def c27n_n45 : Code := kid 1 c27n_n43
noncomputable def c27n_n46 : Code := kid 0 c27n_n45
noncomputable def o27n_n46 : Array Oper := regOps c27n_n46
noncomputable def c27n_n47 : Code := kid 1 c27n_n45
set_option maxHeartbeats 400000 in
theorem add_nil (q : Str) (w : World)   : Calls Tryz.prog 27 #[.pointer none, .agg #[sv q, sv [], .slice none 0 0, .slice none 0 0, .slice none 0 0, .slice none 0 0, .slice none 0 0, .slice none 0 0, .slice none 0 0, .slice none 0 0]] w (RetW [] w fun v _ => v = .int .i64 1) := by
 refine calls_of_S (n := 42) (c := c27n) Tryz.func27 (by kernel_rfl) (by kernel_rfl) (Nat.le_of_ble_eq_true (by kernel_rfl)) ?_
 have hE0 : Eff [] w w := Eff.refl _ _
 refine S.seq (x := c27n_0) (y := c27n_1) (by kernel_rfl) ?_
 refine S.reg (ops := o27n_0) (js := [0, 1, 2]) (by kernel_rfl) (by kernel_rfl) ?_
 refine L.box [.pointer none] (by kernel_rfl : lookAt _ _ _ _ = some ((Op.box 25 (Operand.tmp 0)), some 2)) (by kernel_rfl) ?_
 intro b101 w102 hs103 hz104 E105 B106
 have hE107 := hE0.and0 E105
 have := E105.size
 have hM108 : Mok ([b101] ++ []) w102 := (Mok.nil _).step E105 (nNew (flt1 (b := b101) (by omega)) same)
 refine L.box [sv q, sv [], .slice none 0 0, .slice none 0 0, .slice none 0 0, .slice none 0 0, .slice none 0 0, .slice none 0 0, .slice none 0 0, .slice none 0 0] (by kernel_rfl : lookAt _ _ _ _ = some ((Op.box 40 (Operand.tmp 1)), some 3)) (by kernel_rfl) ?_
 intro b109 w110 hs111 hz112 E113 B114
 have hE115 := hE107.and0 E113
 have := E113.size
 have B116 := B106.eff0 E113
 have hM117 : Mok ([b109] ++ ([b101] ++ [])) w110 := hM108.step E113 (nNew (flt1 (b := b109) (by omega)) (nKeep same))
 refine L.runU [2] [] [(4, .int .i64 0)] (by kernel_rfl) (by kernel_rfl) ?_
 refine L.done ?_
 show S _ _ _ c27n_1 _ _ _ _
 refine S.scope (x := c27n_1_0) (rest := (Code.seq Code.skip c27n_n45)) 0 (fun σ' ds' w' => Blk w' b101 ([.pointer none]) 25 ∧ Blk w' b109 ([sv q, sv [], .slice none 0 0, .slice none 0 0, .slice none 0 0, .slice none 0 0, .slice none 0 0, .slice none 0 0, .slice none 0 0, .slice none 0 0]) 40 ∧ Mok ([b109] ++ ([b101] ++ [])) w' ∧ Eff [] w w' ∧ w110.heap.size ≤ w'.heap.size ∧ ds' = [] ∧ ∃ u, σ' = slots u [(4, .int .i64 1)]) (by kernel_rfl) (by kernel_rfl) ?_ ?_
 ·refine S.seq (x := c27n_1_0_0) (y := c27n_1_0_1) (by kernel_rfl) ?_
  refine S.reg (ops := o27n_1_0_0) (js := [0, 1]) (by kernel_rfl) (by kernel_rfl) ?_
  refine L.runU [0, 1] [] [(6, .func (.func 54) #[] #[.pointer (some ⟨b101, 0, none⟩), .pointer (some ⟨b109, 0, none⟩)]), (5, .func (.func 54) #[] #[.pointer (some ⟨b101, 0, none⟩), .pointer (some ⟨b109, 0, none⟩)])] (by kernel_rfl) (by kernel_rfl) ?_
  refine L.done ?_
  show S _ _ _ c27n_1_0_1 _ _ _ _
  refine S.seq (x := c27n_n6) (y := c27n_n13) (by kernel_rfl) ?_
  refine S.seq (x := c27n_n7) (y := c27n_n8) (by kernel_rfl) ?_
  refine S.reg (ops := o27n_n7) (js := [0]) (by kernel_rfl) (by kernel_rfl) ?_
  refine L.runU [0] [] [(4, .int .i64 1)] (by kernel_rfl) (by kernel_rfl) ?_
  refine L.done ?_
  show S _ _ _ c27n_n8 _ _ _ _
  refine S.seq (x := c27n_n9) (y := c27n_n10) (by kernel_rfl) ?_
  refine S.reg (ops := o27n_n9) (js := [0, 1]) (by kernel_rfl) (by kernel_rfl) ?_
  refine L.val (.pointer none) (by kernel_rfl : lookAt _ _ _ _ = some ((Op.load 25 (Operand.tmp 2)), some 7)) (by intro c e; cases e) (rx_load 0 (.pointer none) (B116.cells) (by kernel_rfl) (by kernel_rfl)) ?_
  refine L.call (f := 40) (by kernel_rfl : lookAt _ _ _ _ = some ((Op.call { callee := (Callee.value (Operand.func 40)), args := #[(Operand.tmp 7)], argTypes := #[25] }), some 8)) e40 (by kernel_rfl) (none_nil _) ?_
  rintro _ w122 E123 rfl
  have hE125 := hE115.and0 E123
  have := E123.size
  have B126 := B116.eff0 E123
  have B127 := B114.eff0 E123
  have hM128 := hM117.eff E123
  refine L.done ?_
  show S _ _ _ c27n_n10 _ _ _ _
  refine S.condT (o := (Operand.tmp 8)) (x := c27n_n11) (y := c27n_n12) (by kernel_rfl) (by kernel_rfl) ?_
  refine S.goto (l := 0) (by kernel_rfl) ?_
  exact ⟨rfl, ⟨B126, B127, hM128, hE125, (by omega), rfl, _, Holds.eq (l := [(4, .int .i64 1)]) ⟨by kernel_rfl, trivial⟩⟩⟩
 rintro σ' ds' w118 ⟨F130, F131, hM132, hE133, hz134, rfl, u120, rfl⟩
 refine S.seq (x := Code.skip) (y := c27n_n45) (by kernel_rfl) ?_
 refine S.skip (by kernel_rfl) ?_
 show S _ _ _ c27n_n45 _ _ _ _
 refine S.seq (x := c27n_n46) (y := c27n_n47) (by kernel_rfl) ?_
 refine S.reg (ops := o27n_n46) (js := [0, 1]) (by kernel_rfl) (by kernel_rfl) ?_
 refine L.runU [0, 1] [] [(41, .int .i64 1), (4, .int .i64 1)] (by kernel_rfl) (by kernel_rfl) ?_
 refine L.done ?_
 show S _ _ _ c27n_n47 _ _ _ _
 refine S.ret (by kernel_rfl) ?_
 show Leave _ _ _ _ _ _ _ _
 refine Leave.ret1 (x := .tmp 4) (.int .i64 1) (by kernel_rfl) (.ofT (by kernel_rfl)) ?_
 refine ⟨_, rfl, hE133, ?_⟩
 rfl
noncomputable def c28z : Code := bodyOf Tryz.f28
noncomputable def c28z_0 : Code := kid 0 c28z
noncomputable def o28z_0 : Array Oper := regOps c28z_0
noncomputable def c28z_1 : Code := kid 1 c28z
noncomputable def c28z_1_0 : Code := kid 0 c28z_1
noncomputable def c28z_1_0_0 : Code := kid 0 c28z_1_0
noncomputable def c28z_n5 : Code := kid 0 c28z_1_0_0
noncomputable def o28z_n5 : Array Oper := regOps c28z_n5
noncomputable def c28z_n6 : Code := kid 1 c28z_1_0_0
noncomputable def c28z_n7 : Code := kid 0 c28z_n6
noncomputable def c28z_n8 : Code := kid 0 c28z_n7
noncomputable def o28z_n8 : Array Oper := regOps c28z_n8
noncomputable def c28z_n9 : Code := kid 1 c28z_n7
noncomputable def c28z_n10 : Code := kid 1 c28z_n6
noncomputable def c28z_1_1 : Code := kid 1 c28z_1
set_option maxHeartbeats 400000 in
theorem set_nil (pb : Nat) (q : Str) (cs : List Value) (c : List (List Str)) (w : World) (hB : Blk w pb [.map none, .map none, .pointer none] 59) (h : kCt.R [] w cs c) : Calls Tryz.prog 28 #[.pointer (some ⟨pb, 0, none⟩), sv q, .agg (cs).toArray] w (RetW [] w fun v _ => v = .int .i64 1) := by
 refine calls_of_S (n := 37) (c := c28z) Tryz.func28 (by kernel_rfl) (by kernel_rfl) (Nat.le_of_ble_eq_true (by kernel_rfl)) ?_
 have := hB.lt
 obtain ⟨v101, v102, v103, v104, v105, v106, v107, v108, rfl, C109⟩ := h
 have hE0 : Eff [] w w := Eff.refl _ _
 refine S.seq (x := c28z_0) (y := c28z_1) (by kernel_rfl) ?_
 refine S.reg (ops := o28z_0) (js := [0, 1]) (by kernel_rfl) (by kernel_rfl) ?_
 refine L.box [v101, v102, v103, v104, v105, v106, v107, v108] (by kernel_rfl : lookAt _ _ _ _ = some ((Op.box 32 (Operand.tmp 2)), some 5)) (by kernel_rfl) ?_
 intro b110 w111 hs112 hz113 E114 B115
 have hE116 := hE0.and0 E114
 have := E114.size
 have nm118 := ninN List.not_mem_nil hB.lt (nNew (fresh1 hs112) same)
 have B117 := hB.eff0 E114
 have C119 := Kd.step (Kd.array 8 [] (Kd.slice Kd.str) rfl) C109 (nNew (fresh1 hs112) same) E114 no0
 have hM120 : Mok ([b110] ++ []) w111 := (Mok.nil _).step E114 (nNew (flt1 (b := b110) (by omega)) same)
 refine L.runU [1] [] [(6, .int .i64 0)] (by kernel_rfl) (by kernel_rfl) ?_
 refine L.done ?_
 show S _ _ _ c28z_1 _ _ _ _
 refine S.seq (x := c28z_1_0) (y := c28z_1_1) (by kernel_rfl) ?_
 refine S.block (id := 0) (x := c28z_1_0_0) (by kernel_rfl) ?_
 refine S.seq (x := c28z_n5) (y := c28z_n6) (by kernel_rfl) ?_
 refine S.reg (ops := o28z_n5) (js := [0, 1, 2]) (by kernel_rfl) (by kernel_rfl) ?_
 refine L.runU [0] [1, 2] [(10, .pointer (some ⟨pb, 0, none⟩))] (by kernel_rfl) (by kernel_rfl) ?_
 refine L.call (f := 40) (by kernel_rfl : lookAt _ _ _ _ = some ((Op.call { callee := (Callee.value (Operand.func 40)), args := #[(Operand.tmp 10)], argTypes := #[25] }), some 11)) e40 (by kernel_rfl) (none_z pb (.map none) (.pointer none) _ B117) ?_
 rintro _ w122 E123 rfl
 have hE125 := hE116.and0 E123
 have := E123.size
 have B126 := B117.eff0 E123
 have C127 := Kd.step (Kd.array 8 [] (Kd.slice Kd.str) rfl) C119 same E123 no0
 have B128 := B115.eff0 E123
 have hM129 := hM120.eff E123
 refine L.runU [2] [] [(9, .bool true)] (by kernel_rfl) (by kernel_rfl) ?_
 refine L.done ?_
 show S _ _ _ c28z_n6 _ _ _ _
 refine S.condT (o := (Operand.tmp 9)) (x := c28z_n7) (y := c28z_n10) (by kernel_rfl) (by kernel_rfl) ?_
 refine S.seq (x := c28z_n8) (y := c28z_n9) (by kernel_rfl) ?_
 refine S.reg (ops := o28z_n8) (js := [0]) (by kernel_rfl) (by kernel_rfl) ?_
 refine L.runU [0] [] [(6, .int .i64 1)] (by kernel_rfl) (by kernel_rfl) ?_
 refine L.done ?_
 show S _ _ _ c28z_n9 _ _ _ _
 refine S.ret (by kernel_rfl) ?_
 show Leave _ _ _ _ _ _ _ _
 refine Leave.ret1 (x := .tmp 6) (.int .i64 1) (by kernel_rfl) (.ofT (by kernel_rfl)) ?_
 refine ⟨_, rfl, hE125, ?_⟩
 rfl
noncomputable def c25n : Code := bodyOf Tryz.f25
noncomputable def c25n_0 : Code := kid 0 c25n
noncomputable def o25n_0 : Array Oper := regOps c25n_0
noncomputable def c25n_1 : Code := kid 1 c25n
noncomputable def c25n_1_0 : Code := kid 0 c25n_1
noncomputable def o25n_1_0 : Array Oper := regOps c25n_1_0
noncomputable def c25n_1_1 : Code := kid 1 c25n_1
noncomputable def c25n_1_1_0 : Code := kid 0 c25n_1_1
noncomputable def c25n_n6 : Code := kid 0 c25n_1_1_0
noncomputable def c25n_n7 : Code := kid 0 c25n_n6
noncomputable def o25n_n7 : Array Oper := regOps c25n_n7
noncomputable def c25n_n8 : Code := kid 1 c25n_n6
noncomputable def c25n_n9 : Code := kid 0 c25n_n8
noncomputable def c25n_n10 : Code := kid 0 c25n_n9
noncomputable def o25n_n10 : Array Oper := regOps c25n_n10
noncomputable def c25n_n11 : Code := kid 1 c25n_n9
noncomputable def c25n_n12 : Code := kid 1 c25n_n8
noncomputable def c25n_1_1_1 : Code := kid 1 c25n_1_1
set_option maxHeartbeats 400000 in
theorem promise_nil  (w : World)   : Calls Tryz.prog 25 #[.pointer none, .agg #[sv [], sv [], .slice none 0 0, .slice none 0 0, .slice none 0 0, .slice none 0 0, .slice none 0 0, .slice none 0 0, .slice none 0 0, .slice none 0 0, .slice none 0 0]] w (RetW [] w fun v _ => v = .int .i64 1) := by
 refine calls_of_S (n := 55) (c := c25n) Tryz.func25 (by kernel_rfl) (by kernel_rfl) (Nat.le_of_ble_eq_true (by kernel_rfl)) ?_
 have hE0 : Eff [] w w := Eff.refl _ _
 refine S.seq (x := c25n_0) (y := c25n_1) (by kernel_rfl) ?_
 refine S.reg (ops := o25n_0) (js := [0, 1]) (by kernel_rfl) (by kernel_rfl) ?_
 refine L.box [sv [], sv [], .slice none 0 0, .slice none 0 0, .slice none 0 0, .slice none 0 0, .slice none 0 0, .slice none 0 0, .slice none 0 0, .slice none 0 0, .slice none 0 0] (by kernel_rfl : lookAt _ _ _ _ = some ((Op.box 34 (Operand.tmp 1)), some 3)) (by kernel_rfl) ?_
 intro b101 w102 hs103 hz104 E105 B106
 have hE107 := hE0.and0 E105
 have := E105.size
 have hM108 : Mok ([b101] ++ []) w102 := (Mok.nil _).step E105 (nNew (flt1 (b := b101) (by omega)) same)
 refine L.runU [1] [] [(4, .int .i64 0)] (by kernel_rfl) (by kernel_rfl) ?_
 refine L.done ?_
 show S _ _ _ c25n_1 _ _ _ _
 refine S.join (x := c25n_1_0) (y := c25n_1_1) (fun σ' ds' w' => ∃ (b5 : Bool), Blk w' b101 ([sv [], sv [], .slice none 0 0, .slice none 0 0, .slice none 0 0, .slice none 0 0, .slice none 0 0, .slice none 0 0, .slice none 0 0, .slice none 0 0, .slice none 0 0]) 34 ∧ Mok ([b101] ++ []) w' ∧ Eff [] w w' ∧ w102.heap.size ≤ w'.heap.size ∧ ds' = [] ∧ ∃ u, σ' = slots u [(0, .pointer none), (3, .pointer (some ⟨b101, 0, none⟩)), (4, .int .i64 0), (5, .bool b5)]) (by kernel_rfl) ?_ ?_
 ·refine S.reg (ops := o25n_1_0) (js := [0, 1, 2, 3, 4, 5, 6, 7, 8, 9, 10, 11, 12, 13, 14, 15, 16, 17, 18, 19, 20, 21, 22, 23, 24, 25, 26]) (by kernel_rfl) (by kernel_rfl) ?_
  refine L.runU [0] [1, 2, 3, 4, 5, 6, 7, 8, 9, 10, 11, 12, 13, 14, 15, 16, 17, 18, 19, 20, 21, 22, 23, 24, 25, 26] [(6, .pointer (some ⟨b101, 1, none⟩))] (by kernel_rfl) (by kernel_rfl) ?_
  refine L.val (sv []) (by kernel_rfl : lookAt _ _ _ _ = some ((Op.load 9 (Operand.tmp 6)), some 7)) (by intro c e; cases e) (rx_load 1 (sv []) (B106.cells) (by kernel_rfl) (by kernel_rfl)) ?_
  refine L.call (f := 50) (by kernel_rfl : lookAt _ _ _ _ = some ((Op.call { callee := (Callee.value (Operand.func 50)), args := #[(Operand.tmp 7)], argTypes := #[9] }), some 8)) e50 (by kernel_rfl) (uuid_ok [] _ (by (simp only [List.length_cons, List.length_nil, List.length_append, List.length_take, List.length_drop, List.length_map, List.length_replicate] <;> omega))) ?_
  rintro _ w113 E114 rfl
  have hE116 := hE107.and0 E114
  have := E114.size
  have B117 := B106.eff0 E114
  have hM118 := hM108.eff E114
  refine L.runU [3] [4, 5, 6, 7, 8, 9, 10, 11, 12, 13, 14, 15, 16, 17, 18, 19, 20, 21, 22, 23, 24, 25, 26] [(9, .bool (uuidF []))] (by kernel_rfl) (by kernel_rfl) ?_
  refine X.splitB (G := fun σ => L _ _ _ _ _ _ σ _ _) (uuidF []) 9 (by kernel_rfl) (fun h119 => ?_) (fun h119 => ?_)
  ·refine L.runU [4] [5, 6, 7, 8, 9, 10, 11, 12, 13, 14, 15, 16, 17, 18, 19, 20, 21, 22, 23, 24, 25, 26] [(10, .pointer (some ⟨b101, 2, none⟩))] (by kernel_rfl) (by kernel_rfl) ?_
   refine L.val (.slice none 0 0) (by kernel_rfl : lookAt _ _ _ _ = some ((Op.load 29 (Operand.tmp 10)), some 11)) (by intro c e; cases e) (rx_load 2 (.slice none 0 0) (B117.cells) (by kernel_rfl) (by kernel_rfl)) ?_
   refine L.runU [6, 7, 8, 9, 10, 11, 12, 13, 14, 15, 16, 17, 18, 19, 20, 21, 22, 23, 24, 25, 26] [] [(12, .int .i64 0), (13, .bool true), (14, .bool true), (15, .bool true), (16, undef), (17, undef), (18, undef), (19, undef), (20, undef), (21, undef), (22, undef), (23, undef), (24, undef), (25, undef), (26, undef), (27, undef), (28, undef), (29, undef), (30, undef), (31, .bool true), (5, .bool true)] (by kernel_rfl) (by kernel_rfl) ?_
   refine L.done ?_
   exact ⟨(true), B117, hM118, hE116, (by omega), rfl, _, Holds.eq (l := [(0, .pointer none), (3, .pointer (some ⟨b101, 0, none⟩)), (4, .int .i64 0), (5, .bool (true))]) ⟨by kernel_rfl, by kernel_rfl, by kernel_rfl, by kernel_rfl, trivial⟩⟩
  ·refine L.runU [4, 5, 6, 7, 8, 9, 10] [11, 12, 13, 14, 15, 16, 17, 18, 19, 20, 21, 22, 23, 24, 25, 26] [(10, undef), (11, undef), (12, undef), (13, undef), (14, .bool false), (15, .bool false), (16, .pointer (some ⟨b101, 1, none⟩))] (by kernel_rfl) (by kernel_rfl) ?_
   refine L.val (sv []) (by kernel_rfl : lookAt _ _ _ _ = some ((Op.load 9 (Operand.tmp 16)), some 17)) (by intro c e; cases e) (rx_load 1 (sv []) (B117.cells) (by kernel_rfl) (by kernel_rfl)) ?_
   refine L.val (.bool (decide (([] : Str) = []))) (by kernel_rfl : lookAt _ _ _ _ = some ((Op.binOp BinOp.eql 9 (Operand.tmp 17) (Operand.const (Value.string { data := #[] })) 9), some 18)) (by intro c e; cases e) (rx_strEql ([] : Str) [] (by kernel_rfl) (by kernel_rfl)) ?_
   refine L.runU [13] [14, 15, 16, 17, 18, 19, 20, 21, 22, 23, 24, 25, 26] [(19, .bool (decide (([] : Str) = [])))] (by kernel_rfl) (by kernel_rfl) ?_
   refine X.splitP (G := fun σ => L _ _ _ _ _ _ σ _ _) (([] : Str) = []) 19 (by kernel_rfl) (fun h120 => ?_) (fun h120 => ?_)
   ·refine L.runU [14] [15, 16, 17, 18, 19, 20, 21, 22, 23, 24, 25, 26] [(20, .pointer (some ⟨b101, 2, none⟩))] (by kernel_rfl) (by kernel_rfl) ?_
    refine L.val (.slice none 0 0) (by kernel_rfl : lookAt _ _ _ _ = some ((Op.load 29 (Operand.tmp 20)), some 21)) (by intro c e; cases e) (rx_load 2 (.slice none 0 0) (B117.cells) (by kernel_rfl) (by kernel_rfl)) ?_
    refine L.runU [16, 17, 18, 19, 20, 21, 22, 23, 24, 25, 26] [] [(22, .int .i64 0), (23, .bool false), (24, .bool false), (25, .bool false), (26, undef), (27, undef), (28, undef), (29, undef), (30, .bool false), (31, .bool false), (5, .bool false)] (by kernel_rfl) (by kernel_rfl) ?_
    refine L.done ?_
    exact ⟨(false), B117, hM118, hE116, (by omega), rfl, _, Holds.eq (l := [(0, .pointer none), (3, .pointer (some ⟨b101, 0, none⟩)), (4, .int .i64 0), (5, .bool (false))]) ⟨by kernel_rfl, by kernel_rfl, by kernel_rfl, by kernel_rfl, trivial⟩⟩
   ·refine L.runU [14, 15, 16, 17, 18, 19, 20, 21, 22, 23, 24, 25, 26] [] [(20, undef), (21, undef), (22, undef), (23, undef), (24, .bool false), (25, .bool false), (26, undef), (27, undef), (28, undef), (29, undef), (30, .bool false), (31, .bool false), (5, .bool false)] (by kernel_rfl) (by kernel_rfl) ?_
    refine L.done ?_
    exact ⟨(false), B117, hM118, hE116, (by omega), rfl, _, Holds.eq (l := [(0, .pointer none), (3, .pointer (some ⟨b101, 0, none⟩)), (4, .int .i64 0), (5, .bool (false))]) ⟨by kernel_rfl, by kernel_rfl, by kernel_rfl, by kernel_rfl, trivial⟩⟩
 rintro σ' ds' w109 ⟨b5, F122, hM123, hE124, hz125, rfl, u111, rfl⟩
 refine S.seq (x := c25n_1_1_0) (y := c25n_1_1_1) (by kernel_rfl) ?_
 refine S.block (id := 0) (x := c25n_n6) (by kernel_rfl) ?_
 refine S.seq (x := c25n_n7) (y := c25n_n8) (by kernel_rfl) ?_
 refine S.reg (ops := o25n_n7) (js := [0, 1, 2]) (by kernel_rfl) (by kernel_rfl) ?_
 refine L.runU [0] [1, 2] [(33, .pointer none)] (by kernel_rfl) (by kernel_rfl) ?_
 refine L.call (f := 40) (by kernel_rfl : lookAt _ _ _ _ = some ((Op.call { callee := (Callee.value (Operand.func 40)), args := #[(Operand.tmp 33)], argTypes := #[25] }), some 34)) e40 (by kernel_rfl) (none_nil _) ?_
 rintro _ w127 E128 rfl
 have hE130 := hE124.and0 E128
 have := E128.size
 have B131 := F122.eff0 E128
 have hM132 := hM123.eff E128
 refine L.runU [2] [] [(32, .bool true)] (by kernel_rfl) (by kernel_rfl) ?_
 refine L.done ?_
 show S _ _ _ c25n_n8 _ _ _ _
 refine S.condT (o := (Operand.tmp 32)) (x := c25n_n9) (y := c25n_n12) (by kernel_rfl) (by kernel_rfl) ?_
 refine S.seq (x := c25n_n10) (y := c25n_n11) (by kernel_rfl) ?_
 refine S.reg (ops := o25n_n10) (js := [0]) (by kernel_rfl) (by kernel_rfl) ?_
 refine L.runU [0] [] [(4, .int .i64 1)] (by kernel_rfl) (by kernel_rfl) ?_
 refine L.done ?_
 show S _ _ _ c25n_n11 _ _ _ _
 refine S.ret (by kernel_rfl) ?_
 show Leave _ _ _ _ _ _ _ _
 refine Leave.ret1 (x := .tmp 4) (.int .i64 1) (by kernel_rfl) (.ofT (by kernel_rfl)) ?_
 refine ⟨_, rfl, hE130, ?_⟩
 rfl
noncomputable def c19z : Code := bodyOf Tryz.f19
noncomputable def c19z_0 : Code := kid 0 c19z
noncomputable def o19z_0 : Array Oper := regOps c19z_0
noncomputable def c19z_1 : Code := kid 1 c19z
noncomputable def c19z_1_0 : Code := kid 0 c19z_1
noncomputable def c19z_1_0_0 : Code := kid 0 c19z_1_0
noncomputable def o19z_1_0_0 : Array Oper := regOps c19z_1_0_0
noncomputable def c19z_1_0_1 : Code := kid 1 c19z_1_0
noncomputable def c19z_n6 : Code := kid 0 c19z_1_0_1
noncomputable def c19z_n7 : Code := kid 0 c19z_n6
noncomputable def o19z_n7 : Array Oper := regOps c19z_n7
noncomputable def c19z_n8 : Code := kid 1 c19z_n6
noncomputable def c19z_n9 : Code := kid 1 c19z_1_0_1
noncomputable def c19z_1_1 : Code := kid 1 c19z_1
set_option maxHeartbeats 400000 in
theorem copy_nil (pb : Nat)  (w : World) (hB : Blk w pb [.map none, .map none, .pointer none] 59)  : Calls Tryz.prog 19 #[.pointer (some ⟨pb, 0, none⟩)] w (RetW [] w fun v _ => v = .pointer none) := by
 refine calls_of_S (n := 31) (c := c19z) Tryz.func19 (by kernel_rfl) (by kernel_rfl) (Nat.le_of_ble_eq_true (by kernel_rfl)) ?_
 have := hB.lt
 have hE0 : Eff [] w w := Eff.refl _ _
 refine S.seq (x := c19z_0) (y := c19z_1) (by kernel_rfl) ?_
 refine S.reg (ops := o19z_0) (js := [0]) (by kernel_rfl) (by kernel_rfl) ?_
 refine L.runU [0] [] [(2, .pointer none)] (by kernel_rfl) (by kernel_rfl) ?_
 refine L.done ?_
 show S _ _ _ c19z_1 _ _ _ _
 refine S.seq (x := c19z_1_0) (y := c19z_1_1) (by kernel_rfl) ?_
 refine S.seq (x := c19z_1_0_0) (y := c19z_1_0_1) (by kernel_rfl) ?_
 refine S.reg (ops := o19z_1_0_0) (js := [0, 1]) (by kernel_rfl) (by kernel_rfl) ?_
 refine L.runU [0] [1] [(8, .pointer (some ⟨pb, 0, none⟩))] (by kernel_rfl) (by kernel_rfl) ?_
 refine L.call (f := 40) (by kernel_rfl : lookAt _ _ _ _ = some ((Op.call { callee := (Callee.value (Operand.func 40)), args := #[(Operand.tmp 8)], argTypes := #[25] }), some 9)) e40 (by kernel_rfl) (none_z pb (.map none) (.pointer none) _ hB) ?_
 rintro _ w102 E103 rfl
 have hE105 := hE0.and0 E103
 have := E103.size
 have B106 := hB.eff0 E103
 have hM107 := (Mok.nil _).eff E103
 refine L.done ?_
 show S _ _ _ c19z_1_0_1 _ _ _ _
 refine S.condT (o := (Operand.tmp 9)) (x := c19z_n6) (y := c19z_n9) (by kernel_rfl) (by kernel_rfl) ?_
 refine S.seq (x := c19z_n7) (y := c19z_n8) (by kernel_rfl) ?_
 refine S.reg (ops := o19z_n7) (js := [0]) (by kernel_rfl) (by kernel_rfl) ?_
 refine L.runU [0] [] [(2, .pointer none)] (by kernel_rfl) (by kernel_rfl) ?_
 refine L.done ?_
 show S _ _ _ c19z_n8 _ _ _ _
 refine S.ret (by kernel_rfl) ?_
 show Leave _ _ _ _ _ _ _ _
 refine Leave.ret1 (x := .tmp 2) (.pointer none) (by kernel_rfl) (.ofT (by kernel_rfl)) ?_
 refine ⟨_, rfl, hE105, ?_⟩
 rfl
noncomputable def c20z : Code := bodyOf Tryz.f20
noncomputable def c20z_0 : Code := kid 0 c20z
noncomputable def o20z_0 : Array Oper := regOps c20z_0
noncomputable def c20z_1 : Code := kid 1 c20z
noncomputable def c20z_1_0 : Code := kid 0 c20z_1
noncomputable def c20z_1_0_0 : Code := kid 0 c20z_1_0
noncomputable def o20z_1_0_0 : Array Oper := regOps c20z_1_0_0
noncomputable def c20z_1_0_1 : Code := kid 1 c20z_1_0
noncomputable def c20z_n6 : Code := kid 0 c20z_1_0_1
noncomputable def c20z_n7 : Code := kid 0 c20z_n6
noncomputable def o20z_n7 : Array Oper := regOps c20z_n7
noncomputable def c20z_n8 : Code := kid 1 c20z_n6
noncomputable def c20z_n9 : Code := kid 1 c20z_1_0_1
noncomputable def c20z_1_1 : Code := kid 1 c20z_1
set_option maxHeartbeats 400000 in
theorem same_nilz (pb : Nat) (w : World) (hB : Blk w pb [.map none, .map none, .pointer none] 59) : Calls Tryz.prog 20 #[.pointer none, .pointer (some ⟨pb, 0, none⟩)] w (RetW [] w fun v _ => v = .bool true) := by
 refine calls_of_S (n := 22) (c := c20z) Tryz.func20 (by kernel_rfl) (by kernel_rfl) (Nat.le_of_ble_eq_true (by kernel_rfl)) ?_
 have := hB.lt
 have hE0 : Eff [] w w := Eff.refl _ _
 refine S.seq (x := c20z_0) (y := c20z_1) (by kernel_rfl) ?_
 refine S.reg (ops := o20z_0) (js := [0]) (by kernel_rfl) (by kernel_rfl) ?_
 refine L.runU [0] [] [(4, .bool false)] (by kernel_rfl) (by kernel_rfl) ?_
 refine L.done ?_
 show S _ _ _ c20z_1 _ _ _ _
 refine S.seq (x := c20z_1_0) (y := c20z_1_1) (by kernel_rfl) ?_
 refine S.seq (x := c20z_1_0_0) (y := c20z_1_0_1) (by kernel_rfl) ?_
 refine S.reg (ops := o20z_1_0_0) (js := [0, 1, 2, 3, 4, 5]) (by kernel_rfl) (by kernel_rfl) ?_
 refine L.runU [0] [1, 2, 3, 4, 5] [(5, .pointer none)] (by kernel_rfl) (by kernel_rfl) ?_
 refine L.call (f := 40) (by kernel_rfl : lookAt _ _ _ _ = some ((Op.call { callee := (Callee.value (Operand.func 40)), args := #[(Operand.tmp 5)], argTypes := #[25] }), some 6)) e40 (by kernel_rfl) (none_nil _) ?_
 rintro _ w102 E103 rfl
 have hE105 := hE0.and0 E103
 have := E103.size
 have B106 := hB.eff0 E103
 have hM107 := (Mok.nil _).eff E103
 refine L.runU [2, 3, 4, 5] [] [(7, .bool true), (8, undef), (9, undef), (10, .bool true)] (by kernel_rfl) (by kernel_rfl) ?_
 refine L.done ?_
 show S _ _ _ c20z_1_0_1 _ _ _ _
 refine S.condT (o := (Operand.tmp 10)) (x := c20z_n6) (y := c20z_n9) (by kernel_rfl) (by kernel_rfl) ?_
 refine S.seq (x := c20z_n7) (y := c20z_n8) (by kernel_rfl) ?_
 refine S.reg (ops := o20z_n7) (js := [0, 1, 2, 3, 4, 5, 6]) (by kernel_rfl) (by kernel_rfl) ?_
 refine L.runU [0] [1, 2, 3, 4, 5, 6] [(11, .pointer none)] (by kernel_rfl) (by kernel_rfl) ?_
 refine L.call (f := 40) (by kernel_rfl : lookAt _ _ _ _ = some ((Op.call { callee := (Callee.value (Operand.func 40)), args := #[(Operand.tmp 11)], argTypes := #[25] }), some 12)) e40 (by kernel_rfl) (none_nil _) ?_
 rintro _ w109 E110 rfl
 have hE112 := hE105.and0 E110
 have := E110.size
 have B113 := B106.eff0 E110
 have hM114 := hM107.eff E110
 refine L.runU [2, 3] [4, 5, 6] [(13, .bool true), (14, .pointer (some ⟨pb, 0, none⟩))] (by kernel_rfl) (by kernel_rfl) ?_
 refine L.call (f := 40) (by kernel_rfl : lookAt _ _ _ _ = some ((Op.call { callee := (Callee.value (Operand.func 40)), args := #[(Operand.tmp 14)], argTypes := #[25] }), some 15)) e40 (by kernel_rfl) (none_z pb (.map none) (.pointer none) _ B113) ?_
 rintro _ w116 E117 rfl
 have hE119 := hE112.and0 E117
 have := E117.size
 have B120 := B113.eff0 E117
 have hM121 := hM114.eff E117
 refine L.runU [5, 6] [] [(16, .bool true), (4, .bool true)] (by kernel_rfl) (by kernel_rfl) ?_
 refine L.done ?_
 show S _ _ _ c20z_n8 _ _ _ _
 refine S.ret (by kernel_rfl) ?_
 show Leave _ _ _ _ _ _ _ _
 refine Leave.ret1 (x := .tmp 4) (.bool true) (by kernel_rfl) (.ofT (by kernel_rfl)) ?_
 refine ⟨_, rfl, hE119, ?_⟩
 rfl
noncomputable def c20n : Code := bodyOf Tryz.f20
noncomputable def c20n_0 : Code := kid 0 c20n
noncomputable def o20n_0 : Array Oper := regOps c20n_0
noncomputable def c20n_1 : Code := kid 1 c20n
noncomputable def c20n_1_0 : Code := kid 0 c20n_1
noncomputable def c20n_1_0_0 : Code := kid 0 c20n_1_0
noncomputable def o20n_1_0_0 : Array Oper := regOps c20n_1_0_0
noncomputable def c20n_1_0_1 : Code := kid 1 c20n_1_0
noncomputable def c20n_n6 : Code := kid 0 c20n_1_0_1
noncomputable def c20n_n7 : Code := kid 0 c20n_n6
noncomputable def o20n_n7 : Array Oper := regOps c20n_n7
noncomputable def c20n_n8 : Code := kid 1 c20n_n6
noncomputable def c20n_n9 : Code := kid 1 c20n_1_0_1
noncomputable def c20n_1_1 : Code := kid 1 c20n_1
set_option maxHeartbeats 400000 in
theorem same_nilnew (pb b1 : Nat) (y z : Value) (w : World) (hB : Blk w pb [.map (some b1), y, z] 59) : Calls Tryz.prog 20 #[.pointer none, .pointer (some ⟨pb, 0, none⟩)] w (RetW [] w fun v _ => v = .bool false) := by
 refine calls_of_S (n := 22) (c := c20n) Tryz.func20 (by kernel_rfl) (by kernel_rfl) (Nat.le_of_ble_eq_true (by kernel_rfl)) ?_
 have hE0 : Eff [] w w := Eff.refl _ _
 refine S.seq (x := c20n_0) (y := c20n_1) (by kernel_rfl) ?_
 refine S.reg (ops := o20n_0) (js := [0]) (by kernel_rfl) (by kernel_rfl) ?_
 refine L.runU [0] [] [(4, .bool false)] (by kernel_rfl) (by kernel_rfl) ?_
 refine L.done ?_
 show S _ _ _ c20n_1 _ _ _ _
 refine S.seq (x := c20n_1_0) (y := c20n_1_1) (by kernel_rfl) ?_
 refine S.seq (x := c20n_1_0_0) (y := c20n_1_0_1) (by kernel_rfl) ?_
 refine S.reg (ops := o20n_1_0_0) (js := [0, 1, 2, 3, 4, 5]) (by kernel_rfl) (by kernel_rfl) ?_
 refine L.runU [0] [1, 2, 3, 4, 5] [(5, .pointer none)] (by kernel_rfl) (by kernel_rfl) ?_
 refine L.call (f := 40) (by kernel_rfl : lookAt _ _ _ _ = some ((Op.call { callee := (Callee.value (Operand.func 40)), args := #[(Operand.tmp 5)], argTypes := #[25] }), some 6)) e40 (by kernel_rfl) (none_nil _) ?_
 rintro _ w102 E103 rfl
 have hE105 := hE0.and0 E103
 have := E103.size
 have B106 := hB.eff0 E103
 refine L.runU [2, 3, 4, 5] [] [(7, .bool true), (8, undef), (9, undef), (10, .bool true)] (by kernel_rfl) (by kernel_rfl) ?_
 refine L.done ?_
 show S _ _ _ c20n_1_0_1 _ _ _ _
 refine S.condT (o := (Operand.tmp 10)) (x := c20n_n6) (y := c20n_n9) (by kernel_rfl) (by kernel_rfl) ?_
 refine S.seq (x := c20n_n7) (y := c20n_n8) (by kernel_rfl) ?_
 refine S.reg (ops := o20n_n7) (js := [0, 1, 2, 3, 4, 5, 6]) (by kernel_rfl) (by kernel_rfl) ?_
 refine L.runU [0] [1, 2, 3, 4, 5, 6] [(11, .pointer none)] (by kernel_rfl) (by kernel_rfl) ?_
 refine L.call (f := 40) (by kernel_rfl : lookAt _ _ _ _ = some ((Op.call { callee := (Callee.value (Operand.func 40)), args := #[(Operand.tmp 11)], argTypes := #[25] }), some 12)) e40 (by kernel_rfl) (none_nil _) ?_
 rintro _ w108 E109 rfl
 have hE111 := hE105.and0 E109
 have := E109.size
 have B112 := B106.eff0 E109
 refine L.runU [2, 3] [4, 5, 6] [(13, .bool true), (14, .pointer (some ⟨pb, 0, none⟩))] (by kernel_rfl) (by kernel_rfl) ?_
 refine L.call (f := 40) (by kernel_rfl : lookAt _ _ _ _ = some ((Op.call { callee := (Callee.value (Operand.func 40)), args := #[(Operand.tmp 14)], argTypes := #[25] }), some 15)) e40 (by kernel_rfl) (none_no pb b1 (y) (z) _ B112) ?_
 rintro _ w114 E115 rfl
 have hE117 := hE111.and0 E115
 have := E115.size
 have B118 := B112.eff0 E115
 refine L.runU [5, 6] [] [(16, .bool false), (4, .bool false)] (by kernel_rfl) (by kernel_rfl) ?_
 refine L.done ?_
 show S _ _ _ c20n_n8 _ _ _ _
 refine S.ret (by kernel_rfl) ?_
 show Leave _ _ _ _ _ _ _ _
 refine Leave.ret1 (x := .tmp 4) (.bool false) (by kernel_rfl) (.ofT (by kernel_rfl)) ?_
 refine ⟨_, rfl, hE117, ?_⟩
 rfl
noncomputable def c31z : Code := bodyOf Tryz.f31
noncomputable def c31z_0 : Code := kid 0 c31z
noncomputable def o31z_0 : Array Oper := regOps c31z_0
noncomputable def c31z_1 : Code := kid 1 c31z
noncomputable def c31z_1_0 : Code := kid 0 c31z_1
noncomputable def o31z_1_0 : Array Oper := regOps c31z_1_0
noncomputable def c31z_1_1 : Code := kid 1 c31z_1
noncomputable def c31z_1_1_0 : Code := kid 0 c31z_1_1
noncomputable def c31z_n6 : Code := kid 0 c31z_1_1_0
noncomputable def o31z_n6 : Array Oper := regOps c31z_n6
noncomputable def c31z_n7 : Code := kid 1 c31z_1_1_0
noncomputable def c31z_n8 : Code := kid 0 c31z_n7
noncomputable def o31z_n8 : Array Oper := regOps c31z_n8
noncomputable def c31z_n9 : Code := kid 1 c31z_n7
noncomputable def c31z_n10 : Code := kid 0 c31z_n9
noncomputable def c31z_n15 : Code := kid 1 c31z_n9
noncomputable def c31z_1_1_1 : Code := kid 1 c31z_1_1
noncomputable def c31z_n17 : Code := kid 0 c31z_1_1_1
noncomputable def c31z_n18 : Code := kid 0 c31z_n17
noncomputable def o31z_n18 : Array Oper := regOps c31z_n18
noncomputable def c31z_n19 : Code := kid 1 c31z_n17
noncomputable def c31z_n20 : Code := kid 0 c31z_n19
noncomputable def c31z_n21 : Code := kid 0 c31z_n20
noncomputable def c31z_n22 : Code := kid 1 c31z_n20
noncomputable def c31z_n26 : Code := kid 1 c31z_1_1_1
noncomputable def c31z_n27 : Code := kid 0 c31z_n26
noncomputable def o31z_n27 : Array Oper := regOps c31z_n27
noncomputable def c31z_n28 : Code := kid 1 c31z_n26
set_option maxHeartbeats 400000 in
theorem rows_nil (pb : Nat)  (w : World) (hB : Blk w pb [.map none, .map none, .pointer none] 59)  : Calls Tryz.prog 31 #[.pointer (some ⟨pb, 0, none⟩)] w (RetW [] w fun v _ => v = .slice none 0 0) := by
 refine calls_of_S (n := 67) (c := c31z) Tryz.func31 (by kernel_rfl) (by kernel_rfl) (Nat.le_of_ble_eq_true (by kernel_rfl)) ?_
 have := hB.lt
 have hE0 : Eff [] w w := Eff.refl _ _
 refine S.seq (x := c31z_0) (y := c31z_1) (by kernel_rfl) ?_
 refine S.reg (ops := o31z_0) (js := [0]) (by kernel_rfl) (by kernel_rfl) ?_
 refine L.runU [0] [] [(2, .slice none 0 0)] (by kernel_rfl) (by kernel_rfl) ?_
 refine L.done ?_
 show S _ _ _ c31z_1 _ _ _ _
 refine S.seq (x := c31z_1_0) (y := c31z_1_1) (by kernel_rfl) ?_
 refine S.reg (ops := o31z_1_0) (js := [0]) (by kernel_rfl) (by kernel_rfl) ?_
 refine L.alloc [.slice none 0 0] (by kernel_rfl : lookAt _ _ _ _ = some ((Op.alloc 72), some 3)) (by kernel_rfl) ?_
 intro b101 w102 hs103 hz104 E105 B106
 have hE107 := hE0.and0 E105
 have := E105.size
 have nm109 := ninN List.not_mem_nil hB.lt (nNew (fresh1 hs103) same)
 have B108 := hB.eff0 E105
 have hM110 : Mok ([b101] ++ []) w102 := (Mok.nil _).step E105 (nNew (flt1 (b := b101) (by omega)) same)
 refine L.done ?_
 show S _ _ _ c31z_1_1 _ _ _ _
 refine S.seq (x := c31z_1_1_0) (y := c31z_1_1_1) (by kernel_rfl) ?_
 refine S.seq (x := c31z_n6) (y := c31z_n7) (by kernel_rfl) ?_
 refine S.reg (ops := o31z_n6) (js := [0, 1, 2, 3, 4, 5, 6, 7]) (by kernel_rfl) (by kernel_rfl) ?_
 refine L.runU [0] [1, 2, 3, 4, 5, 6, 7] [(15, .pointer (some ⟨pb, 0, none⟩))] (by kernel_rfl) (by kernel_rfl) ?_
 refine L.call (f := 23) (by kernel_rfl : lookAt _ _ _ _ = some ((Op.call { callee := (Callee.value (Operand.func 23)), args := #[(Operand.tmp 15)], argTypes := #[25] }), some 16)) e23 (by kernel_rfl) (promised_z pb _ B108) ?_
 rintro _ w112 E113 rfl
 have hE115 := hE107.and0 E113
 have := E113.size
 have B116 := B108.eff0 E113
 have B117 := B106.eff0 E113
 have hM118 := hM110.eff E113
 refine L.runU [2, 3, 4] [5, 6, 7] [(14, .tuple #[.agg #[sv [], sv [], .slice none 0 0, .slice none 0 0, .slice none 0 0, .slice none 0 0, .slice none 0 0, .slice none 0 0, .slice none 0 0, .slice none 0 0, .slice none 0 0], .bool false]), (17, .agg #[sv [], sv [], .slice none 0 0, .slice none 0 0, .slice none 0 0, .slice none 0 0, .slice none 0 0, .slice none 0 0, .slice none 0 0, .slice none 0 0, .slice none 0 0]), (18, .bool false)] (by kernel_rfl) (by kernel_rfl) ?_
 refine L.alloc [sv [], sv [], .slice none 0 0, .slice none 0 0, .slice none 0 0, .slice none 0 0, .slice none 0 0, .slice none 0 0, .slice none 0 0, .slice none 0 0, .slice none 0 0] (by kernel_rfl : lookAt _ _ _ _ = some ((Op.alloc 34), some 4)) (by kernel_rfl) ?_
 intro b119 w120 hs121 hz122 E123 B124
 have hE125 := hE115.and0 E123
 have := E123.size
 have nm127 := ninN nm109 B116.lt (nNew (fresh1 hs121) (nKeep same))
 have B126 := B116.eff0 E123
 have B128 := B117.eff0 E123
 have hM129 : Mok ([b119] ++ ([b101] ++ [])) w120 := hM118.step E123 (nNew (flt1 (b := b119) (by omega)) (nKeep same))
 refine L.store 0 [sv [], sv [], .slice none 0 0, .slice none 0 0, .slice none 0 0, .slice none 0 0, .slice none 0 0, .slice none 0 0, .slice none 0 0, .slice none 0 0, .slice none 0 0] [sv [], sv [], .slice none 0 0, .slice none 0 0, .slice none 0 0, .slice none 0 0, .slice none 0 0, .slice none 0 0, .slice none 0 0, .slice none 0 0, .slice none 0 0] (by kernel_rfl : lookAt _ _ _ _ = some ((Op.store 34 (Operand.tmp 4) (Operand.tmp 17)), none)) (by kernel_rfl) B124 (by kernel_rfl) (by kernel_rfl) (by kernel_rfl) (one_of_all (by kernel_rfl)) (by kernel_rfl) ?_
 intro w130 E131 hz132 B133
 have hE134 := hE125.and1 E131 (by omega)
 have := E131.size
 have B135 := B126.eff1 E131 (by omega)
 have B136 := B128.eff1 E131 (by omega)
 have hM137 := hM129.eff E131
 refine L.runU [7] [] [(5, .bool false)] (by kernel_rfl) (by kernel_rfl) ?_
 refine L.done ?_
 show S _ _ _ c31z_n7 _ _ _ _
 refine S.seq (x := c31z_n8) (y := c31z_n9) (by kernel_rfl) ?_
 refine S.reg (ops := o31z_n8) (js := [0]) (by kernel_rfl) (by kernel_rfl) ?_
 refine L.runU [0] [] [(19, .bool false)] (by kernel_rfl) (by kernel_rfl) ?_
 refine L.done ?_
 show S _ _ _ c31z_n9 _ _ _ _
 refine S.condF (o := (Operand.tmp 19)) (x := c31z_n10) (y := c31z_n15) (by kernel_rfl) (by kernel_rfl) ?_
 refine S.skip (by kernel_rfl) ?_
 show S _ _ _ c31z_1_1_1 _ _ _ _
 refine S.seq (x := c31z_n17) (y := c31z_n26) (by kernel_rfl) ?_
 refine S.seq (x := c31z_n18) (y := c31z_n19) (by kernel_rfl) ?_
 refine S.reg (ops := o31z_n18) (js := [0, 1]) (by kernel_rfl) (by kernel_rfl) ?_
 refine L.runU [0] [1] [(44, .pointer (some ⟨pb, 0, none⟩))] (by kernel_rfl) (by kernel_rfl) ?_
 refine L.call (f := 24) (by kernel_rfl : lookAt _ _ _ _ = some ((Op.call { callee := (Callee.value (Operand.func 24)), args := #[(Operand.tmp 44)], argTypes := #[25] }), some 45)) e24 (by kernel_rfl) (all_z pb _ B135) ?_
 rintro _ w139 E140 ⟨b142, rfl, B143, hb144⟩
 have nm145 := not_mem_of_ge (b := b142) hM137 hb144
 have hE147 := hE134.and0 E140
 have := E140.size
 have B148 := B135.eff0 E140
 have B149 := B136.eff0 E140
 have B150 := B133.eff0 E140
 have hM151 := hM137.eff E140
 have := B143.lt
 have R146 : Sl kPg ([b119] ++ ([b101] ++ [])) w139 none ([] : List Pg) := Sl.nil _ _ _ _
 refine L.done ?_
 show S _ _ _ c31z_n19 _ _ _ _
 refine S.block (id := 0) (x := c31z_n20) (by kernel_rfl) ?_
 have := B148.lt
 have := B149.lt
 have := B150.lt
 have := B143.lt
 obtain ⟨D152, hD154⟩ : ∃ D, w139.heap.size = D := ⟨_, rfl⟩
 obtain ⟨l153, hl155⟩ : ∃ l, D152 + 1 = l := ⟨_, rfl⟩
 refine S.range (α := Nat × Pg) (g := (Operand.tmp 45)) (ps := #[46, 47]) (assign := c31z_n21) (body := c31z_n22) (gf := 49) (lb := #[.pointer (some ⟨b142, 0, none⟩)]) false D152 l153 (encPg none ([] : List Pg)) (nxL ([] : List Pg)) (finL ([] : List Pg)) (fun N m pre w' => m ≤ w'.heap.size ∧ (∀ b, b ∈ [l153] ++ ([D152] ++ ([b119] ++ ([b101] ++ []))) → b < m) ∧ l153 < w'.heap.size ∧ Blk w' pb ([.map none, .map none, .pointer none]) 59 ∧ pb ∉ [l153] ++ ([D152] ++ ([b119] ++ ([b101] ++ []))) ∧ Blk w' b101 ([.slice none 0 0]) 72 ∧ Blk w' b119 ([sv [], sv [], .slice none 0 0, .slice none 0 0, .slice none 0 0, .slice none 0 0, .slice none 0 0, .slice none 0 0, .slice none 0 0, .slice none 0 0, .slice none 0 0]) 34 ∧ Blk w' b142 ([.slice none 0 0]) 27 ∧ b142 ∉ [l153] ++ ([D152] ++ ([b119] ++ ([b101] ++ []))) ∧ Sl kPg ([l153] ++ ([D152] ++ ([b119] ++ ([b101] ++ [])))) w' none ([] : List Pg) ∧ Eff [] w w' ∧ True) (fun e w' => False) (by kernel_rfl) (by kernel_rfl) e49 (by kernel_rfl) hD154 hl155 ?_ ?_ ?_ nofun nofun ?_ ?_ ?_ ?_ ?_
 ·intro w156 E157 hs158
  have hE159 := hE147.and0 E157
  have := E157.size
  have nm161 := ninN nm127 B148.lt (nNew (fresh1' (b := l153) (by omega)) (nNew (fresh1' (b := D152) (by omega)) (nKeep (nKeep same))))
  have B160 := B148.eff0 E157
  have B162 := B149.eff0 E157
  have B163 := B150.eff0 E157
  have nm165 := ninN nm145 B143.lt (nNew (fresh1' (b := l153) (by omega)) (nNew (fresh1' (b := D152) (by omega)) (nKeep (nKeep same))))
  have B164 := B143.eff0 E157
  have R166 := R146.step (nNew (fresh1' (b := l153) (by omega)) (nNew (fresh1' (b := D152) (by omega)) (nKeep (nKeep same)))) E157 no0
  have hM167 : Mok ([l153] ++ ([D152] ++ ([b119] ++ ([b101] ++ [])))) w156 := hM151.step E157 (nNew (flt1 (b := l153) (by omega)) (nNew (flt1 (b := D152) (by omega)) (nKeep (nKeep same))))
  exact ⟨(Nat.le_refl _), hM167, (by omega), B160, nm161, B162, B163, B164, nm165, R166, hE159, trivial⟩
 ·rintro N174 m173 pre w168 w169 ⟨hm175, hb176, hlt177, F178, nm179, F180, F181, F182, nm183, F184, hE185, -⟩ E170 hs171 hlt172
  have hE186 := hE185.and1 E170 (by omega)
  have := E170.size
  have B187 := F178.eff1 E170 (by omega)
  have B188 := F180.eff1 E170 (by omega)
  have B189 := F181.eff1 E170 (by omega)
  have B190 := F182.eff1 E170 (by omega)
  have R191 := F184.step same E170 (in1 (List.mem_append_left _ (List.mem_singleton.2 rfl)))
  have hM192 := (bnd_mok hb176 hm175).eff E170
  exact ⟨(Nat.le_trans hm175 E170.size), hb176, (Nat.lt_of_lt_of_le hlt177 E170.size), B187, nm179, B188, B189, B190, nm183, R191, hE186, trivial⟩
 ·rintro N199 m198 pre w193 w194 ⟨hm200, hb201, hlt202, F203, nm204, F205, F206, F207, nm208, F209, hE210, -⟩ E195
  have hE211 := hE210.and0 E195
  have := E195.size
  have B212 := F203.eff0 E195
  have B213 := F205.eff0 E195
  have B214 := F206.eff0 E195
  have B215 := F207.eff0 E195
  have R216 := F209.step same E195 no0
  have hM217 := (bnd_mok hb201 hm200).eff E195
  exact ⟨(Nat.le_trans hm200 E195.size), hb201, (Nat.lt_of_lt_of_le hlt202 E195.size), B212, nm204, B213, B214, B215, nm208, R216, hE211, trivial⟩
 ·rintro e w1 w2 h
  exact h.elim
 ·intro w223 J' hs224 E225 hJ226 hst227 _ _
  refine iter49 b142 none 0 ([] : List Pg) J' _ (fun N m pre w h => ?_) hst227 (fun _ h => absurd h (by simp))
  obtain ⟨hm228, hb229, hlt230, F231, nm232, F233, F234, F235, nm236, F237, hE238, -⟩ := hJ226 N m pre w h
  exact ⟨F235, F237.wk0⟩
 ·rintro N242 m241 pre x args w239 ⟨hm243, hb244, hlt245, F246, nm247, F248, F249, F250, nm251, F252, hE253, -⟩ hx he hlt240
  have hM254 : Mok ([l153] ++ ([D152] ++ ([b119] ++ ([b101] ++ [])))) w239 := (bnd_mok hb244 hm243)
  obtain ⟨_, x⟩ := x
  exact absurd hx.2.1 (by simp)
 ·rintro N259 m258 pre w255 hF ⟨hm260, hb261, hlt262, F263, nm264, F265, F266, F267, nm268, F269, hE270, -⟩ hlt256 DB257
  have hM271 : Mok ([l153] ++ ([D152] ++ ([b119] ++ ([b101] ++ [])))) w255 := bnd_mok hb261 hm260
  show S _ _ _ c31z_n26 _ _ _ _
  refine S.seq (x := c31z_n27) (y := c31z_n28) (by kernel_rfl) ?_
  refine S.reg (ops := o31z_n27) (js := [0, 1]) (by kernel_rfl) (by kernel_rfl) ?_
  refine L.val (.slice none 0 0) (by kernel_rfl : lookAt _ _ _ _ = some ((Op.load 72 (Operand.tmp 3)), some 66)) (by intro c e; cases e) (rx_load 0 (.slice none 0 0) (F265.cells) (by kernel_rfl) (by kernel_rfl)) ?_
  refine L.runU [1] [] [(2, .slice none 0 0)] (by kernel_rfl) (by kernel_rfl) ?_
  refine L.done ?_
  show S _ _ _ c31z_n28 _ _ _ _
  refine S.ret (by kernel_rfl) ?_
  show Leave _ _ _ _ _ _ _ _
  refine Leave.mark (D := D152) (by intro h; cases h) DB257 ?_
  intro w272 E273 hs274
  have hE275 := hE270.and1 E273 (by omega)
  have := E273.size
  have B276 := F263.eff1 E273 (by omega)
  have B277 := F265.eff1 E273 (by omega)
  have B278 := F266.eff1 E273 (by omega)
  have B279 := F267.eff1 E273 (by omega)
  have R280 := F269.step same E273 (in1 (List.mem_append_right _ (List.mem_append_left _ (List.mem_singleton.2 rfl))))
  have hM281 := hM271.eff E273
  show Leave _ _ _ _ _ _ _ _
  refine Leave.ret1 (x := .tmp 2) (.slice none 0 0) (by kernel_rfl) (.ofT (by kernel_rfl)) ?_
  refine ⟨_, rfl, hE275, ?_⟩
  rfl
 ·rintro e w1 h
  exact h.elim
end Go.Proofs.YtjleeadiadpiaaaGreatDoor
