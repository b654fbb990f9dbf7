/- What the row of this claim reaches. No condition. -/
import Derived.Test.YtfggjefncnhikaaZVLawB
set_option linter.unusedVariables false
set_option linter.unusedSimpArgs false
namespace Go.Proofs.Ytfggjefncnhikaa.V
open Go.RowKit Go.Proofs.YtfggjefncnhikaaW.PrintWords Go.Proofs.YtfggjefncnhikaaW.PrintLast Go.Proofs.YtfggjefncnhikaaW.PrintMore
attribute [local go_sem high] eqA61
attribute [local go_sem] beq_self_eq_true
section
variable (a0_0 : Int) (A0_1 : Option Addr) (c0_1 : Nat) (l0_1 : List S44) (A1 : Option Addr) (c1 : Nat) (l1 : List S61) (own : Int) (reads : Bool) (snap x0 x1 y0 y1 row : Int) (w : World)
set_option maxHeartbeats 40000000 in
set_option maxRecDepth 100000 in
theorem law_any (hr0_1 : Kd.C k44 w A0_1 l0_1.length l0_1) (hc0_1 : l0_1.length ≤ c0_1) (hr1 : Kd.C k61 w A1 l1.length l1) (hc1 : l1.length ≤ c1) (hn0 : l0_1.length ≤ 500) (hn1 : l1.length ≤ 300)
    (xs ys : List S61) (e g h : Int) (z : S61) (th : Bool) (hx : vision_Seen.f a0_0 l0_1 own reads snap l1 = some (xs, e)) (hy : vision_In.f a0_0 l0_1 own reads snap l1 x0 x1 y0 y1 = some (ys, g)) (hr : vision_ready.f a0_0 l0_1 l1 = some h) (hR : h = 0 → rightF a0_0 (prs l0_1) = true)
    (k : Nat) (rb bx al : Bool) (all inw : List S61) (hRt : gazetteerref17_Right.f k a0_0 l0_1 = some rb) (hBx : gazetteerref09_Box.f x0 x1 y0 y1 = some bx) (hAl : gazetteerref17_All.f k l1 = some al)
    (hAn : gazetteerref17_In.f k a0_0 l0_1 own reads snap l1 0 0 0 0 false = some all) (hIn : gazetteerref17_In.f k a0_0 l0_1 own reads snap l1 x0 x1 y0 y1 true = some inw)
    (hS1 : rb = true → al = true → gazetteerref17_Same.f k xs all = some true) (hS2 : rb = true → al = true → bx = true → gazetteerref17_Same.f k ys inw = some true) (hwy : Ways rb bx al th xs ys all inw e g h row z)
    (hz : oneV h ((l1.filter (seesB own reads snap a0_0 l0_1)).find? (fun x => x.f1.f0 == row)) = .tuple #[stored z, .bool th, .int .i64 h]) :
    Calls Try.prog 8 #[.agg #[.int .u64 a0_0, .slice A0_1 l0_1.length c0_1], .slice A1 l1.length c1, .agg #[.int .u64 own, .bool reads, .int .u64 snap, .int .i64 x0, .int .i64 x1, .int .i64 y0, .int .i64 y1, .int .u32 row]] w fun e w' => e = .returned (.bool true) ∧ Below w.heap.size w w' := by
  have hwk := fun W => Lib.hid (gazetteerlaw17_wakes.calls true W wakes_f)
  have hcp : ∀ W, Below w.heap.size w W → Hid (Calls Try.prog 11 #[.agg #[.int .u64 a0_0, .slice A0_1 l0_1.length c0_1]] W fun e w' => ∃ v1_ : Value, e = .returned (.agg #[.int .u64 a0_0, v1_]) ∧ Kd.R k44 44 w' W.heap.size (fun _ => True) v1_ l0_1 ∧ Below W.heap.size W w') := fun W hb => Lib.hid (gazetteerlaw17_copied.calls a0_0 A0_1 c0_1 l0_1 a0_0 l0_1 W (Kd.C_below hr0_1 hb) hc0_1 (by unfold gazetteerlaw17_copied.f; simp; omega))
  have how : ∀ W, Below w.heap.size w W → W.cell? ⟨w.heap.size + 1, 0, none⟩ = some (.slice A1 l1.length c1) → Hid (Calls Try.prog 20 #[.pointer (some ⟨w.heap.size + 1, 0, none⟩)] W fun e w' => ∃ v : Value, e = .returned v ∧ Kd.R k61 61 w' W.heap.size (fun _ => True) v l1 ∧ Below W.heap.size W w') := fun W hb hc => Lib.hid (own_any A1 c1 l1 (w.heap.size + 1) W (Kd.C_below hr1 hb) (by omega) hc)
  have hse := fun (A0 : Option Addr) (c0 : Nat) (A2 : Option Addr) (c2 : Nat) (W : World) (h1 : Kd.C k44 W A0 l0_1.length l0_1) (h2 : l0_1.length ≤ c0) (h3 : Kd.C k61 W A2 l1.length l1) (h4 : l1.length ≤ c2) => Lib.hid (vision_Seen_any a0_0 A0 c0 l0_1 own reads snap A2 c2 l1 xs e W h1 h2 h3 h4 hx)
  have hin := fun (A0 : Option Addr) (c0 : Nat) (A2 : Option Addr) (c2 : Nat) (W : World) (h1 : Kd.C k44 W A0 l0_1.length l0_1) (h2 : l0_1.length ≤ c0) (h3 : Kd.C k61 W A2 l1.length l1) (h4 : l1.length ≤ c2) => Lib.hid (vision_In_any a0_0 A0 c0 l0_1 own reads snap A2 c2 l1 x0 x1 y0 y1 ys g W h1 h2 h3 h4 hy)
  have hon := fun (A0 : Option Addr) (c0 : Nat) (A2 : Option Addr) (c2 : Nat) (W : World) (h1 : Kd.C k44 W A0 l0_1.length l0_1) (h2 : l0_1.length ≤ c0) (h3 : Kd.C k61 W A2 l1.length l1) (h4 : l1.length ≤ c2) => Lib.hid (vision_One_any a0_0 A0 c0 l0_1 own reads snap A2 c2 l1 row h W h1 h2 h3 h4 hr hR)
  rw [hz] at hon
  have cRt := fun (W : World) (hb : Below w.heap.size w W) => Lib.hid (gazetteerref17_Right.calls k a0_0 A0_1 c0_1 l0_1 rb W (Kd.C_below hr0_1 hb) hc0_1 hRt)
  have cBx := fun (W : World) => Lib.hid (gazetteerref09_Box.calls x0 x1 y0 y1 bx W hBx)
  have cAl := fun (W : World) (hb : Below w.heap.size w W) => Lib.hid (gazetteerref17_All.calls k A1 c1 l1 al W (Kd.C_below hr1 hb) hc1 hAl)
  have cAn := fun (W : World) (hb : Below w.heap.size w W) => Lib.hid (gazetteerref17_In.calls k a0_0 A0_1 c0_1 l0_1 own reads snap A1 c1 l1 0 0 0 0 false all W (Kd.C_below hr0_1 hb) hc0_1 (Kd.C_below hr1 hb) hc1 hAn)
  have cIn := fun (W : World) (hb : Below w.heap.size w W) => Lib.hid (gazetteerref17_In.calls k a0_0 A0_1 c0_1 l0_1 own reads snap A1 c1 l1 x0 x1 y0 y1 true inw W (Kd.C_below hr0_1 hb) hc0_1 (Kd.C_below hr1 hb) hc1 hIn)
  have cS1 := Lib.hid (fun (h1 : rb = true) (h2 : al = true) (Ax : Option Addr) (cx : Nat) (Aa : Option Addr) (ca : Nat) (W : World) (h3 : Kd.C k61 W Ax xs.length xs) (h4 : xs.length ≤ cx) (h5 : Kd.C k61 W Aa all.length all) (h6 : all.length ≤ ca) => Lib.hid (gazetteerref17_Same.calls k Ax cx xs Aa ca all true W h3 h4 h5 h6 (hS1 h1 h2)))
  have cS2 := Lib.hid (fun (h1 : rb = true) (h2 : al = true) (h7 : bx = true) (Ax : Option Addr) (cx : Nat) (Aa : Option Addr) (ca : Nat) (W : World) (h3 : Kd.C k61 W Ax ys.length ys) (h4 : ys.length ≤ cx) (h5 : Kd.C k61 W Aa inw.length inw) (h6 : inw.length ≤ ca) => Lib.hid (gazetteerref17_Same.calls k Ax cx ys Aa ca inw true W h3 h4 h5 h6 (hS2 h1 h2 h7)))
  have HWy := Lib.hid hwy
  clear hr0_1 hr1 hx hy hr hR hz hRt hBx hAl hAn hIn hS1 hS2 hwy
  obtain ⟨W0, hW0⟩ : ∃ W, ((w.alloc (.cells #[.int .u64 a0_0, .slice A0_1 l0_1.length c0_1] 25)).alloc (.cells #[.slice A1 l1.length c1] 51)).alloc (.cells #[.int .u64 own, .bool reads, .int .u64 snap, .int .i64 x0, .int .i64 x1, .int .i64 y0, .int .i64 y1, .int .u32 row] 53) = W := ⟨_, rfl⟩
  have hM0 : Mem w W0 a0_0 A0_1 l0_1.length c0_1 A1 l1.length c1 own reads snap x0 x1 y0 y1 row := by
    rw [← hW0]
    exact ⟨Blk.alloc (Blk.alloc (Blk.newAt rfl) _) _, Blk.alloc (Blk.newAt (by simp)) _, Blk.newAt (by simp), by (repeat (first | exact Below.refl _ _ | refine Below.drew ?_ | refine below_drewN' ?_ | refine Below.alloc ?_ (by simp; try omega) _ | refine Below.setCell ?_ (by simp; try omega) _))⟩
  have d1 : decide (500 < l0_1.length) = false := decide_eq_false (by omega)
  have d2 : decide (300 < l1.length) = false := decide_eq_false (by omega)
  have HW := Lib.hid hW0
  have HM0 := Lib.hid hM0
  clear hW0 hM0
  go_enter Try.func8, Try.ntmps8
  go_upto_region 6 with (go_at_call 9; (with_reducible refine (hwk _).out.mono ?_); rintro e w1 ⟨rfl, hb1⟩; rw [HW.out] at hb1; have hM1 := HM0.out.keep hb1; obtain ⟨k0, k1⟩ := hM1.w0; have k2 := hM1.w1)
  clear HW HM0
  go_cut [8, 9] (fun s8 s9 wx => ∃ W : World, W = wx ∧ ∃ Ax cx, s8 = .slice Ax xs.length cx ∧ s9 = .int .i64 e ∧ xs.length ≤ cx ∧ Kd.C k61 wx Ax xs.length xs ∧ Mem w wx a0_0 A0_1 l0_1.length c0_1 A1 l1.length c1 own reads snap x0 x1 y0 y1 row)
  case first =>
    clear k0 k1 k2
    obtain ⟨k0, k1⟩ := hM1.w0; have k2 := hM1.w1; obtain ⟨k3, k4, k5, k6, k7, k8, k9, k10⟩ := hM1.w2; have hB := hM1.b; have hR0 := Below.refl w1.heap.size w1; have HM := Lib.hid hM1; clear hM1
    go_region_held3 (fun w' => w'.cell? ⟨w.heap.size, 0, none⟩ = some (.int .u64 a0_0) ∧ w'.cell? ⟨w.heap.size, 1, none⟩ = some (.slice A0_1 l0_1.length c0_1) ∧ w'.cell? ⟨w.heap.size + 1, 0, none⟩ = some (.slice A1 l1.length c1) ∧ w'.cell? ⟨w.heap.size + 1 + 1, 0, none⟩ = some (.int .u64 own) ∧ w'.cell? ⟨w.heap.size + 1 + 1, 1, none⟩ = some (.bool reads) ∧ w'.cell? ⟨w.heap.size + 1 + 1, 2, none⟩ = some (.int .u64 snap) ∧ Below w1.heap.size w1 w' ∧ Below w.heap.size w w') ((first | (go_split_ands; (repeat' apply And.intro) <;> (first | assumption | exact keep_cell hb2 (by assumption) | exact keep_below (by assumption) hb2 | exact Below.drew (by assumption) | exact keep_alloc _ (by assumption) | exact keep_below_alloc _ (by assumption) | (go_simp; done))) | (go_simp; done) | (simp [go_sem, *]; done)))
      (first
        | (go_split_ands; (refine goes Try.func11 (by kernel_rfl) rfl #[.agg #[.int .u64 a0_0, .slice A0_1 l0_1.length c0_1]] (by rfl) rfl rfl ?_ ?_; ((try simp only [List.map_toArray, List.map_cons, List.map_nil]); rfl); (with_reducible refine ((hcp _ (by assumption)).out).mono ?_); rintro e w2 ⟨v1, rfl, hv1, hb2⟩; refine ⟨_, rfl, ?_⟩); obtain ⟨Ac, cc, rfl, hcc, hCc⟩ := Kd.R_reads hv1; clear hv1)
        | (go_split_ands; (refine goesC0 Try.func20 (by kernel_rfl) rfl #[.pointer (some ⟨w.heap.size + 1, 0, none⟩)] (by rfl) rfl rfl ?_ ?_; rfl; (with_reducible refine ((how _ (by assumption) (by assumption)).out).mono ?_); rintro e w2 ⟨v1, rfl, hv1, hb2⟩; refine ⟨_, rfl, ?_⟩); obtain ⟨Ao, co, rfl, hco, hCo⟩ := Kd.R_reads hv1; clear hv1; have hCc2 := Kd.C_below hCc hb2)
        | (go_split_ands; (refine goes Try.func21 (by kernel_rfl) rfl #[.agg #[.int .u64 a0_0, .slice Ac l0_1.length cc], .agg #[.int .u64 own, .bool reads, .int .u64 snap], .slice Ao l1.length co] (by rfl) rfl rfl ?_ ?_; ((try simp only [List.map_toArray, List.map_cons, List.map_nil]); rfl); (with_reducible refine ((hse Ac cc Ao co _ hCc2 hcc hCo hco).out).mono ?_); rintro e w2 ⟨vx, rfl, hvx, hb2⟩; refine ⟨_, rfl, ?_⟩); obtain ⟨Ax, cx, rfl, hcx, hCx⟩ := Kd.R_reads hvx))
    go_wp2_with fail
    go_meet
    go_split_ands
    exact ⟨_, rfl, Ax, cx, rfl, rfl, hcx, hCx, HM.out.keep (by assumption)⟩
  case rest =>
    clear k0 k1 k2 hM1 hb1 hwk hse
    obtain ⟨wx, rfl, Ax, cx, rfl, rfl, hcx, hCx, hMx⟩ := hcut
    have HX := Lib.hid (And.intro hcx hCx)
    clear hcx hCx
    go_upto_region 7 with fail
    go_cut [10, 11] (fun s10 s11 wy => ∃ W : World, W = wy ∧ ∃ Ay cy, s10 = .slice Ay ys.length cy ∧ s11 = .int .i64 g ∧ ys.length ≤ cy ∧ Kd.C k61 wy Ay ys.length ys ∧ Kd.C k61 wy Ax xs.length xs ∧ Mem w wy a0_0 A0_1 l0_1.length c0_1 A1 l1.length c1 own reads snap x0 x1 y0 y1 row)
    case first =>
      obtain ⟨k0, k1⟩ := hMx.w0; have k2 := hMx.w1; obtain ⟨k3, k4, k5, k6, k7, k8, k9, k10⟩ := hMx.w2; have hB := hMx.b; have hR0 := Below.refl wx.heap.size wx; have HM := Lib.hid hMx; clear hMx
      go_region_held3 (fun w' => w'.cell? ⟨w.heap.size, 0, none⟩ = some (.int .u64 a0_0) ∧ w'.cell? ⟨w.heap.size, 1, none⟩ = some (.slice A0_1 l0_1.length c0_1) ∧ w'.cell? ⟨w.heap.size + 1, 0, none⟩ = some (.slice A1 l1.length c1) ∧ w'.cell? ⟨w.heap.size + 1 + 1, 0, none⟩ = some (.int .u64 own) ∧ w'.cell? ⟨w.heap.size + 1 + 1, 1, none⟩ = some (.bool reads) ∧ w'.cell? ⟨w.heap.size + 1 + 1, 2, none⟩ = some (.int .u64 snap) ∧ w'.cell? ⟨w.heap.size + 1 + 1, 3, none⟩ = some (.int .i64 x0) ∧ w'.cell? ⟨w.heap.size + 1 + 1, 4, none⟩ = some (.int .i64 x1) ∧ w'.cell? ⟨w.heap.size + 1 + 1, 5, none⟩ = some (.int .i64 y0) ∧ w'.cell? ⟨w.heap.size + 1 + 1, 6, none⟩ = some (.int .i64 y1) ∧ Below wx.heap.size wx w' ∧ Below w.heap.size w w') ((first | (go_split_ands; (repeat' apply And.intro) <;> (first | assumption | exact keep_cell hb2 (by assumption) | exact keep_below (by assumption) hb2 | exact Below.drew (by assumption) | exact keep_alloc _ (by assumption) | exact keep_below_alloc _ (by assumption) | (go_simp; done))) | (go_simp; done) | (simp [go_sem, *]; done)))
        (first
          | (go_split_ands; (refine goes Try.func11 (by kernel_rfl) rfl #[.agg #[.int .u64 a0_0, .slice A0_1 l0_1.length c0_1]] (by rfl) rfl rfl ?_ ?_; ((try simp only [List.map_toArray, List.map_cons, List.map_nil]); rfl); (with_reducible refine ((hcp _ (by assumption)).out).mono ?_); rintro e w2 ⟨v1, rfl, hv1, hb2⟩; refine ⟨_, rfl, ?_⟩); obtain ⟨Ac, cc, rfl, hcc, hCc⟩ := Kd.R_reads hv1; clear hv1)
          | (go_split_ands; (refine goesC0 Try.func20 (by kernel_rfl) rfl #[.pointer (some ⟨w.heap.size + 1, 0, none⟩)] (by rfl) rfl rfl ?_ ?_; rfl; (with_reducible refine ((how _ (by assumption) (by assumption)).out).mono ?_); rintro e w2 ⟨v1, rfl, hv1, hb2⟩; refine ⟨_, rfl, ?_⟩); obtain ⟨Ao, co, rfl, hco, hCo⟩ := Kd.R_reads hv1; clear hv1; have hCc2 := Kd.C_below hCc hb2)
          | (go_split_ands; (refine goes Try.func22 (by kernel_rfl) rfl #[.agg #[.int .u64 a0_0, .slice Ac l0_1.length cc], .agg #[.int .u64 own, .bool reads, .int .u64 snap], .slice Ao l1.length co, .agg #[.int .i64 x0, .int .i64 x1, .int .i64 y0, .int .i64 y1]] (by rfl) rfl rfl ?_ ?_; ((try simp only [List.map_toArray, List.map_cons, List.map_nil]); rfl); (with_reducible refine ((hin Ac cc Ao co _ hCc2 hcc hCo hco).out).mono ?_); rintro e w2 ⟨vy, rfl, hvy, hb2⟩; refine ⟨_, rfl, ?_⟩); obtain ⟨Ay, cy, rfl, hcy, hCy⟩ := Kd.R_reads hvy))
      go_wp2_with fail
      go_meet
      go_split_ands
      exact ⟨_, rfl, Ay, cy, rfl, rfl, hcy, hCy, Kd.C_below HX.out.2 (by assumption), HM.out.keep (by assumption)⟩
    case rest =>
      clear hMx hin
      obtain ⟨wy, rfl, Ay, cy, rfl, rfl, hcy, hCy, hCx, hMy⟩ := hcut
      have HY := Lib.hid (And.intro hcy (And.intro hCy (And.intro HX.out.1 hCx)))
      clear HX hcy hCy hCx
      go_upto_region 8 with fail
      refine reg8_any a0_0 A0_1 c0_1 l0_1 A1 c1 l1 own reads snap x0 x1 y0 y1 row w xs ys e g h z th Ax cx Ay cy _ _ _ _ _ _ _ _ _ _ _ _ _ _ _ _ _ _ _ _ _ _ _ _ _ _ _ _ _ _ _ _ _ _ _ _ _ _ _ _ _ _ _ _ _ _ _ _ _ _ _ _ _ _ _ _ _ _ _ _ _ _ _ _ _ _ _ _ _ _ _ _ _ _ _ _ _ _ _ _ _ _ _ _ _ _ _ _ _ _ _ _ _ _ _ _ _ _ _ _ _ _ _ _ _ _ _ _ _ _ _ _ _ _ _ _ _ _ _ _ _ _ _ _ _ _ _ _ _ _ _ _ _ _ _ _ _ _ _ _ _ _ _ _ _ _ _ _ _ _ _ _ _ _ _ _ _ _ _ _ _ _ _ _ _ _ _ _ _ _ _ _ _ _ _ _ _ _ _ _ _ _ _ _ _ _ _ _ _ _ _ _ _ _ _ _ _ _ hcp how hon hMy _ ?_
      intro gz wz v15 v16 v17 u18 u19 u20 u21 u22 u23 u24 u25 u26 u27 u28 u29 u30 u31 u32 u33 u34 u35 u36 u37 u38 u39 u40 u41 u42 u43 u44 u45 u46 u47 u48 u49 u50 u51 u52 u53 u54 u55 u56 u57 u58 u59 u60 u61 u62 u63 u64 u65 u66 u67 u68 u69 u70 u71 u72 u73 u74 u75 u76 u77 u78 u79 u80 u81 u82 u83 u84 u85 u86 u87 u88 u89 u90 u91 u92 u93 u94 u95 u96 u97 u98 u99 u100 u101 u102 u103 u104 u105 u106 u107 u108 u109 u110 u111 u112 u113 u114 u115 u116 u117 u118 u119 u120 u121 u122 u123 u124 u125 u126 u127 u128 u129 u130 u131 u132 u133 u134 u135 u136 u137 u138 u139 u140 u141 u142 u143 u144 u145 u146 u147 u148 u149 u150 u151 u152 u153 u154 u155 u156 u157 u158 u159 u160 u161 u162 u163 u164 u165 u166 u167 u168 u169 u170 u171 u172 u173 u174 u175 u176 u177 u178 u179 u180 u181 u182 u183 u184 u185 u186 u187 u188 u189 u190 u191 u192 u193 u194 u195 u196 u197 u198 u199 u200 u201 u202 u203 u204 u205 u206 u207 u208 b_z l_z hBz
      rename_i hrest
      refine hrest _ _ ?_
      exact rest9_any a0_0 A0_1 c0_1 l0_1 A1 c1 l1 own reads snap x0 x1 y0 y1 row w xs ys all inw e g h z th rb bx al Ax cx Ay cy gz wz v15 v16 v17 u18 u19 u20 u21 u22 u23 u24 u25 u26 u27 u28 u29 u30 u31 u32 u33 u34 u35 u36 u37 u38 u39 u40 u41 u42 u43 u44 u45 u46 u47 u48 u49 u50 u51 u52 u53 u54 u55 u56 u57 u58 u59 u60 u61 u62 u63 u64 u65 u66 u67 u68 u69 u70 u71 u72 u73 u74 u75 u76 u77 u78 u79 u80 u81 u82 u83 u84 u85 u86 u87 u88 u89 u90 u91 u92 u93 u94 u95 u96 u97 u98 u99 u100 u101 u102 u103 u104 u105 u106 u107 u108 u109 u110 u111 u112 u113 u114 u115 u116 u117 u118 u119 u120 u121 u122 u123 u124 u125 u126 u127 u128 u129 u130 u131 u132 u133 u134 u135 u136 u137 u138 u139 u140 u141 u142 u143 u144 u145 u146 u147 u148 u149 u150 u151 u152 u153 u154 u155 u156 u157 u158 u159 u160 u161 u162 u163 u164 u165 u166 u167 u168 u169 u170 u171 u172 u173 u174 u175 u176 u177 u178 u179 u180 u181 u182 u183 u184 u185 u186 u187 u188 u189 u190 u191 u192 u193 u194 u195 u196 u197 u198 u199 u200 u201 u202 u203 u204 u205 u206 u207 u208 HWy cRt cBx cAl cAn cIn cS1 cS2 (hMy.keep hBz) b_z (Kd.C_below HY.out.2.2.2 hBz) (Kd.C_below HY.out.2.1 hBz) (Lib.hid (And.intro HY.out.1 HY.out.2.2.1))
end
end Go.Proofs.Ytfggjefncnhikaa.V
