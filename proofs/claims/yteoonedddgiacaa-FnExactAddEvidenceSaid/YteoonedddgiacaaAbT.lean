/- Steps of a walk, by the form of the values: each fact is found by evaluation. -/
import Derived.Test.YteoonedddgiacaaAbS
namespace Go.Proofs.Yteoonedddgiacaa.Ab
open Go Go.RowKit
set_option linter.unusedSimpArgs false
set_option linter.unusedVariables false

section
variable {T : Nat → AV} {H : Nat → Option Rows} {nr : Nat} {x y z : AX}

theorem o_mv_int {k : IntKind} {a : Int} (h1 : gT T x = .int k a) : ev (gT T) H nr (.mv x) = some (.int k a, [], 0) := by simp only [ev, h1, pureR]
theorem o_mv_bool {b : Bool} (h1 : gT T x = .bool b) : ev (gT T) H nr (.mv x) = some (.bool b, [], 0) := by simp only [ev, h1, pureR]
theorem o_mv_str {s : ByteArray} (h1 : gT T x = .str s) : ev (gT T) H nr (.mv x) = some (.str s, [], 0) := by simp only [ev, h1, pureR]
theorem o_mv_sl {r s o l : Nat} (h1 : gT T x = .sl r s o l) : ev (gT T) H nr (.mv x) = some (.sl r s o l, [], 0) := by simp only [ev, h1, pureR]
theorem o_mv_pt {r i j : Nat} (h1 : gT T x = .pt r i j) : ev (gT T) H nr (.mv x) = some (.pt r i j, [], 0) := by simp only [ev, h1, pureR]
theorem o_mv_vw {nn : Bool} {es : Rows} (h1 : gT T x = .vw nn es) : ev (gT T) H nr (.mv x) = some (.vw nn es, [], 0) := by simp only [ev, h1, pureR]
theorem o_mv_vp {cs : List AV} (h1 : gT T x = .vp cs) : ev (gT T) H nr (.mv x) = some (.vp cs, [], 0) := by simp only [ev, h1, pureR]
theorem o_mv_agg {cs : List AV} (h1 : gT T x = .agg cs) : ev (gT T) H nr (.mv x) = some (.agg cs, [], 0) := by simp only [ev, h1, pureR]
theorem o_mv_nilS  (h1 : gT T x = .nilS) : ev (gT T) H nr (.mv x) = some (.nilS, [], 0) := by simp only [ev, h1, pureR]
theorem o_mv_fn {f : Nat} {cs : List AV} (h1 : gT T x = .fn f cs) : ev (gT T) H nr (.mv x) = some (.fn f cs, [], 0) := by simp only [ev, h1, pureR]
theorem o_mv_tup {cs : List AV} (h1 : gT T x = .tup cs) : ev (gT T) H nr (.mv x) = some (.tup cs, [], 0) := by simp only [ev, h1, pureR]
theorem o_mv_nilP  (h1 : gT T x = .nilP) : ev (gT T) H nr (.mv x) = some (.nilP, [], 0) := by simp only [ev, h1, pureR]
theorem o_mv_nilF  (h1 : gT T x = .nilF) : ev (gT T) H nr (.mv x) = some (.nilF, [], 0) := by simp only [ev, h1, pureR]
theorem o_mv_undef  (h1 : gT T x = .undef) : ev (gT T) H nr (.mv x) = some (.undef, [], 0) := by simp only [ev, h1, pureR]
theorem o_eql {k : IntKind} {a b : Int} (h1 : gT T x = .int k a) (h2 : gT T y = .int k b) : ev (gT T) H nr (.bin .eql x y) = some (.bool (decide (a = b)), [], 0) := by simp only [ev, h1, h2, binI, if_true, Option.bind_some, pureR]; by_cases h : a = b <;> simp [h]
theorem o_neq {k : IntKind} {a b : Int} (h1 : gT T x = .int k a) (h2 : gT T y = .int k b) : ev (gT T) H nr (.bin .neq x y) = some (.bool (decide (a ≠ b)), [], 0) := by simp only [ev, h1, h2, binI, if_true, Option.bind_some, pureR]; by_cases h : a = b <;> simp [h]
theorem o_lss {k : IntKind} {a b : Int} (h1 : gT T x = .int k a) (h2 : gT T y = .int k b) : ev (gT T) H nr (.bin .lss x y) = some (.bool (decide (a < b)), [], 0) := by simp only [ev, h1, h2, binI, if_true, Option.bind_some, pureR]
theorem o_leq {k : IntKind} {a b : Int} (h1 : gT T x = .int k a) (h2 : gT T y = .int k b) : ev (gT T) H nr (.bin .leq x y) = some (.bool (decide (a ≤ b)), [], 0) := by simp only [ev, h1, h2, binI, if_true, Option.bind_some, pureR]
theorem o_gtr {k : IntKind} {a b : Int} (h1 : gT T x = .int k a) (h2 : gT T y = .int k b) : ev (gT T) H nr (.bin .gtr x y) = some (.bool (decide (a > b)), [], 0) := by simp only [ev, h1, h2, binI, if_true, Option.bind_some, pureR]
theorem o_geq {k : IntKind} {a b : Int} (h1 : gT T x = .int k a) (h2 : gT T y = .int k b) : ev (gT T) H nr (.bin .geq x y) = some (.bool (decide (a ≥ b)), [], 0) := by simp only [ev, h1, h2, binI, if_true, Option.bind_some, pureR]
theorem o_pick_t_int {k : IntKind} {a : Int} (h1 : gT T x = .bool true) (h2 : gT T y = .int k a) : ev (gT T) H nr (.pick x y z) = some (.int k a, [], 0) := by simp only [ev, h1, h2, pureR, if_true]
theorem o_pick_f_int {k : IntKind} {a : Int} (h1 : gT T x = .bool false) (h2 : gT T z = .int k a) : ev (gT T) H nr (.pick x y z) = some (.int k a, [], 0) := by simp only [ev, h1, h2, pureR]; rfl
theorem o_pick_t_bool {b : Bool} (h1 : gT T x = .bool true) (h2 : gT T y = .bool b) : ev (gT T) H nr (.pick x y z) = some (.bool b, [], 0) := by simp only [ev, h1, h2, pureR, if_true]
theorem o_pick_f_bool {b : Bool} (h1 : gT T x = .bool false) (h2 : gT T z = .bool b) : ev (gT T) H nr (.pick x y z) = some (.bool b, [], 0) := by simp only [ev, h1, h2, pureR]; rfl
theorem o_not {b : Bool} (h1 : gT T x = .bool b) : ev (gT T) H nr (.un .not x) = some (.bool (!b), [], 0) := by simp only [ev, h1, pureR]
theorem o_not_d {p : Prop} {ip : Decidable p} (h1 : gT T x = .bool (decide p)) : ev (gT T) H nr (.un .not x) = some (.bool (decide (¬ p)), [], 0) := by simp only [ev, h1, pureR]; by_cases h : p <;> simp [h]
theorem o_beq {a b : Bool} (h1 : gT T x = .bool a) (h2 : gT T y = .bool b) : ev (gT T) H nr (.bool2 false x y) = some (.bool (decide (a = b)), [], 0) := by simp only [ev, h1, h2, pureR]; cases a <;> cases b <;> rfl
theorem o_bne {a b : Bool} (h1 : gT T x = .bool a) (h2 : gT T y = .bool b) : ev (gT T) H nr (.bool2 true x y) = some (.bool (decide (a ≠ b)), [], 0) := by simp only [ev, h1, h2, pureR]; cases a <;> cases b <;> rfl
theorem o_len_sl {r s o l : Nat} (h1 : gT T x = .sl r s o l) : ev (gT T) H nr (.len x) = some (.int .i64 (l : Int), [], 0) := by simp only [ev, h1, pureR]
theorem o_len_vw {nn : Bool} {es : Rows} (h1 : gT T x = .vw nn es) : ev (gT T) H nr (.len x) = some (.int .i64 (es.length : Int), [], 0) := by simp only [ev, h1, pureR]
theorem o_len_vwm {α : Type} {f : α → List AV} {xs : List α} {nn : Bool} (h1 : gT T x = .vw nn (xs.map f)) : ev (gT T) H nr (.len x) = some (.int .i64 (xs.length : Int), [], 0) := by simp only [ev, h1, pureR, List.length_map]
theorem o_len_nil  (h1 : gT T x = .nilS) : ev (gT T) H nr (.len x) = some (.int .i64 0, [], 0) := by simp only [ev, h1, pureR]
theorem o_slen {s : ByteArray} (h1 : gT T x = .str s) : ev (gT T) H nr (.slen x) = some (.int .i64 (s.size : Int), [], 0) := by simp only [ev, h1, pureR]
theorem o_fa_pt {r i j off : Nat} (h1 : gT T x = .pt r i j) : ev (gT T) H nr (.fa off x) = some (.pt r i (j + off), [], 0) := by simp only [ev, h1, pureR]
theorem o_fa_vp {off : Nat} {cs cs' : List AV} (h1 : gT T x = .vp cs) (h2 : cs.drop off = cs') : ev (gT T) H nr (.fa off x) = some (.vp cs', [], 0) := by simp only [ev, h1, pureR, h2]
theorem o_nck_pt {r i j : Nat} (h1 : gT T x = .pt r i j) : ev (gT T) H nr (.nck x) = some (.pt r i j, [], 0) := by simp only [ev, h1, pureR]
theorem o_nck_vp {cs : List AV} (h1 : gT T x = .vp cs) : ev (gT T) H nr (.nck x) = some (.vp cs, [], 0) := by simp only [ev, h1, pureR]
theorem o_nck_fn {f : Nat} {cs : List AV} (h1 : gT T x = .fn f cs) : ev (gT T) H nr (.nck x) = some (.fn f cs, [], 0) := by simp only [ev, h1, pureR]
theorem o_ldf_pt {r i j : Nat} {sz : Nat} {rows : Rows} {row : List AV} {v : AV} (h1 : gT T x = .pt r i j) (h2 : H r = some rows) (h3 : rows[i]? = some row) (h4 : row[j]? = some v) : ev (gT T) H nr (.ld false sz x) = some (v, [], 0) := by simp only [ev, h1, h2, h3, h4, pureR]; rfl
theorem o_ldt_pt {r i j : Nat} {sz : Nat} {rows : Rows} {row cs : List AV} (h1 : gT T x = .pt r i j) (h2 : H r = some rows) (h3 : rows[i]? = some row) (h4 : Nat.ble (j + sz) row.length = true) (h5 : (row.drop j).take sz = cs) : ev (gT T) H nr (.ld true sz x) = some (.agg cs, [], 0) := by have h4 := Nat.le_of_ble_eq_true h4; simp only [ev, h1, h2, h3, h4, h5, pureR, if_true]
theorem o_ldf_vp {sz : Nat} {v : AV} {cs : List AV} (h1 : gT T x = .vp (v :: cs)) : ev (gT T) H nr (.ld false sz x) = some (v, [], 0) := by simp only [ev, h1, pureR]; rfl
theorem o_ldt_vp {sz : Nat} {cs ds : List AV} (h1 : gT T x = .vp cs) (h2 : Nat.ble sz cs.length = true) (h3 : cs.take sz = ds) : ev (gT T) H nr (.ld true sz x) = some (.agg ds, [], 0) := by have h2 := Nat.le_of_ble_eq_true h2; simp only [ev, h1, h2, h3, pureR, if_true]
theorem o_fldf {off sz : Nat} {cs : List AV} {v : AV} (h1 : gT T x = .agg cs) (h2 : cs[off]? = some v) : ev (gT T) H nr (.fld false off sz x) = some (v, [], 0) := by simp only [ev, h1, h2, pureR]; rfl
theorem o_fldt {off sz : Nat} {cs ds : List AV} (h1 : gT T x = .agg cs) (h2 : Nat.ble (off + sz) cs.length = true) (h3 : (cs.drop off).take sz = ds) : ev (gT T) H nr (.fld true off sz x) = some (.agg ds, [], 0) := by have h2 := Nat.le_of_ble_eq_true h2; simp only [ev, h1, h2, h3, pureR, if_true]
theorem o_ext {vs : List AV} {i : Nat} {v : AV} (h1 : gT T x = .tup vs) (h2 : vs[i]? = some v) : ev (gT T) H nr (.ext x i) = some (v, [], 0) := by simp only [ev, h1, h2, pureR]
theorem o_mx {k k' : IntKind} {a b : Int} (h1 : gT T x = .int k a) (h2 : gT T y = .int k' b) : ev (gT T) H nr (.mx x y) = some (.int k (max a b), [], 0) := by simp only [ev, h1, h2, pureR]; congr 3; split <;> omega
theorem o_mn {k k' : IntKind} {a b : Int} (h1 : gT T x = .int k a) (h2 : gT T y = .int k' b) : ev (gT T) H nr (.mn x y) = some (.int k (min a b), [], 0) := by simp only [ev, h1, h2, pureR]; congr 3; split <;> omega
theorem o_quo {a b : Int} (h1 : gT T x = .int .i64 a) (h2 : gT T y = .int .i64 b) (h0 : b ≠ 0) (h3 : -9223372036854775808 ≤ a.tdiv b) (h4 : a.tdiv b ≤ 9223372036854775807) : ev (gT T) H nr (.bin .quo x y) = some (.int .i64 (a.tdiv b), [], 0) := by simp only [ev, h1, h2, binI, if_true, if_neg h0, Option.bind_some, pureR]; rw [IntWalk.i64_in _ ⟨h3, h4⟩]
theorem o_rem {a b : Int} (h1 : gT T x = .int .i64 a) (h2 : gT T y = .int .i64 b) (h0 : b ≠ 0) : ev (gT T) H nr (.bin .rem x y) = some (.int .i64 (a.tmod b), [], 0) := by simp only [ev, h1, h2, binI, if_true, if_neg h0, Option.bind_some, pureR]
theorem o_neg {a : Int} (h1 : gT T x = .int .i64 a) (h3 : -9223372036854775808 ≤ -a) (h4 : -a ≤ 9223372036854775807) : ev (gT T) H nr (.un .neg x) = some (.int .i64 (-a), [], 0) := by simp only [ev, h1, pureR]; rw [Int.zero_sub, IntWalk.i64_in _ ⟨h3, h4⟩]


theorem o_build {z cs : List AV} {ps : List (Nat × Nat × AX)} (h : fillA (gT T) z ps = some cs) : ev (gT T) H nr (.build z ps) = some (.agg cs, [], 0) := by simp only [ev, h, pureR]
theorem o_alloc {z : List AV} : ev (gT T) H nr (.alloc z) = some (.pt nr 0 0, [(nr, some [z])], 1) := rfl
theorem o_box_agg {sz : Nat} {cs : List AV} (h1 : gT T x = .agg cs) (h2 : cs.length = sz) : ev (gT T) H nr (.box sz true x) = some (.pt nr 0 0, [(nr, some [cs])], 1) := by simp only [ev, h1, h2, and_self, if_true]
theorem o_box_int {k : IntKind} {a : Int} (h1 : gT T x = .int k a) : ev (gT T) H nr (.box 1 false x) = some (.pt nr 0 0, [(nr, some [[.int k a]])], 1) := by simp only [ev, h1, and_self, if_true]
theorem o_st_int {k : IntKind} {a : Int} {r0 i0 j0 : Nat} {rows rows' : Rows} {row : List AV} (h1 : gT T x = .pt r0 i0 j0) (h2 : H r0 = some rows) (h3 : rows[i0]? = some row) (h4 : gT T y = .int k a) (h6 : Nat.ble (j0 + 1) row.length = true) (h7 : rows.set i0 (put row j0 [.int k a]) = rows') : ev (gT T) H nr (.st 1 x y) = some (.undef, [(r0, some rows')], 0) := by have h6 := Nat.le_of_ble_eq_true h6; subst h7; simp only [ev, h1, h2, h3, h4, cellsOf, List.length_cons, List.length_nil, Nat.zero_add, true_and, h6, if_true]
theorem o_box_bool {b : Bool} (h1 : gT T x = .bool b) : ev (gT T) H nr (.box 1 false x) = some (.pt nr 0 0, [(nr, some [[.bool b]])], 1) := by simp only [ev, h1, and_self, if_true]
theorem o_st_bool {b : Bool} {r0 i0 j0 : Nat} {rows rows' : Rows} {row : List AV} (h1 : gT T x = .pt r0 i0 j0) (h2 : H r0 = some rows) (h3 : rows[i0]? = some row) (h4 : gT T y = .bool b) (h6 : Nat.ble (j0 + 1) row.length = true) (h7 : rows.set i0 (put row j0 [.bool b]) = rows') : ev (gT T) H nr (.st 1 x y) = some (.undef, [(r0, some rows')], 0) := by have h6 := Nat.le_of_ble_eq_true h6; subst h7; simp only [ev, h1, h2, h3, h4, cellsOf, List.length_cons, List.length_nil, Nat.zero_add, true_and, h6, if_true]
theorem o_box_str {s : ByteArray} (h1 : gT T x = .str s) : ev (gT T) H nr (.box 1 false x) = some (.pt nr 0 0, [(nr, some [[.str s]])], 1) := by simp only [ev, h1, and_self, if_true]
theorem o_st_str {s : ByteArray} {r0 i0 j0 : Nat} {rows rows' : Rows} {row : List AV} (h1 : gT T x = .pt r0 i0 j0) (h2 : H r0 = some rows) (h3 : rows[i0]? = some row) (h4 : gT T y = .str s) (h6 : Nat.ble (j0 + 1) row.length = true) (h7 : rows.set i0 (put row j0 [.str s]) = rows') : ev (gT T) H nr (.st 1 x y) = some (.undef, [(r0, some rows')], 0) := by have h6 := Nat.le_of_ble_eq_true h6; subst h7; simp only [ev, h1, h2, h3, h4, cellsOf, List.length_cons, List.length_nil, Nat.zero_add, true_and, h6, if_true]
theorem o_box_sl {r s o l : Nat} (h1 : gT T x = .sl r s o l) : ev (gT T) H nr (.box 1 false x) = some (.pt nr 0 0, [(nr, some [[.sl r s o l]])], 1) := by simp only [ev, h1, and_self, if_true]
theorem o_st_sl {r s o l : Nat} {r0 i0 j0 : Nat} {rows rows' : Rows} {row : List AV} (h1 : gT T x = .pt r0 i0 j0) (h2 : H r0 = some rows) (h3 : rows[i0]? = some row) (h4 : gT T y = .sl r s o l) (h6 : Nat.ble (j0 + 1) row.length = true) (h7 : rows.set i0 (put row j0 [.sl r s o l]) = rows') : ev (gT T) H nr (.st 1 x y) = some (.undef, [(r0, some rows')], 0) := by have h6 := Nat.le_of_ble_eq_true h6; subst h7; simp only [ev, h1, h2, h3, h4, cellsOf, List.length_cons, List.length_nil, Nat.zero_add, true_and, h6, if_true]
theorem o_box_pt {r i j : Nat} (h1 : gT T x = .pt r i j) : ev (gT T) H nr (.box 1 false x) = some (.pt nr 0 0, [(nr, some [[.pt r i j]])], 1) := by simp only [ev, h1, and_self, if_true]
theorem o_st_pt {r i j : Nat} {r0 i0 j0 : Nat} {rows rows' : Rows} {row : List AV} (h1 : gT T x = .pt r0 i0 j0) (h2 : H r0 = some rows) (h3 : rows[i0]? = some row) (h4 : gT T y = .pt r i j) (h6 : Nat.ble (j0 + 1) row.length = true) (h7 : rows.set i0 (put row j0 [.pt r i j]) = rows') : ev (gT T) H nr (.st 1 x y) = some (.undef, [(r0, some rows')], 0) := by have h6 := Nat.le_of_ble_eq_true h6; subst h7; simp only [ev, h1, h2, h3, h4, cellsOf, List.length_cons, List.length_nil, Nat.zero_add, true_and, h6, if_true]
theorem o_box_vw {nn : Bool} {es : Rows} (h1 : gT T x = .vw nn es) : ev (gT T) H nr (.box 1 false x) = some (.pt nr 0 0, [(nr, some [[.vw nn es]])], 1) := by simp only [ev, h1, and_self, if_true]
theorem o_st_vw {nn : Bool} {es : Rows} {r0 i0 j0 : Nat} {rows rows' : Rows} {row : List AV} (h1 : gT T x = .pt r0 i0 j0) (h2 : H r0 = some rows) (h3 : rows[i0]? = some row) (h4 : gT T y = .vw nn es) (h6 : Nat.ble (j0 + 1) row.length = true) (h7 : rows.set i0 (put row j0 [.vw nn es]) = rows') : ev (gT T) H nr (.st 1 x y) = some (.undef, [(r0, some rows')], 0) := by have h6 := Nat.le_of_ble_eq_true h6; subst h7; simp only [ev, h1, h2, h3, h4, cellsOf, List.length_cons, List.length_nil, Nat.zero_add, true_and, h6, if_true]
theorem o_box_vp {cs : List AV} (h1 : gT T x = .vp cs) : ev (gT T) H nr (.box 1 false x) = some (.pt nr 0 0, [(nr, some [[.vp cs]])], 1) := by simp only [ev, h1, and_self, if_true]
theorem o_st_vp {cs : List AV} {r0 i0 j0 : Nat} {rows rows' : Rows} {row : List AV} (h1 : gT T x = .pt r0 i0 j0) (h2 : H r0 = some rows) (h3 : rows[i0]? = some row) (h4 : gT T y = .vp cs) (h6 : Nat.ble (j0 + 1) row.length = true) (h7 : rows.set i0 (put row j0 [.vp cs]) = rows') : ev (gT T) H nr (.st 1 x y) = some (.undef, [(r0, some rows')], 0) := by have h6 := Nat.le_of_ble_eq_true h6; subst h7; simp only [ev, h1, h2, h3, h4, cellsOf, List.length_cons, List.length_nil, Nat.zero_add, true_and, h6, if_true]
theorem o_box_nilS  (h1 : gT T x = .nilS) : ev (gT T) H nr (.box 1 false x) = some (.pt nr 0 0, [(nr, some [[.nilS]])], 1) := by simp only [ev, h1, and_self, if_true]
theorem o_st_nilS  {r0 i0 j0 : Nat} {rows rows' : Rows} {row : List AV} (h1 : gT T x = .pt r0 i0 j0) (h2 : H r0 = some rows) (h3 : rows[i0]? = some row) (h4 : gT T y = .nilS) (h6 : Nat.ble (j0 + 1) row.length = true) (h7 : rows.set i0 (put row j0 [.nilS]) = rows') : ev (gT T) H nr (.st 1 x y) = some (.undef, [(r0, some rows')], 0) := by have h6 := Nat.le_of_ble_eq_true h6; subst h7; simp only [ev, h1, h2, h3, h4, cellsOf, List.length_cons, List.length_nil, Nat.zero_add, true_and, h6, if_true]
theorem o_box_fn {f : Nat} {cs : List AV} (h1 : gT T x = .fn f cs) : ev (gT T) H nr (.box 1 false x) = some (.pt nr 0 0, [(nr, some [[.fn f cs]])], 1) := by simp only [ev, h1, and_self, if_true]
theorem o_st_fn {f : Nat} {cs : List AV} {r0 i0 j0 : Nat} {rows rows' : Rows} {row : List AV} (h1 : gT T x = .pt r0 i0 j0) (h2 : H r0 = some rows) (h3 : rows[i0]? = some row) (h4 : gT T y = .fn f cs) (h6 : Nat.ble (j0 + 1) row.length = true) (h7 : rows.set i0 (put row j0 [.fn f cs]) = rows') : ev (gT T) H nr (.st 1 x y) = some (.undef, [(r0, some rows')], 0) := by have h6 := Nat.le_of_ble_eq_true h6; subst h7; simp only [ev, h1, h2, h3, h4, cellsOf, List.length_cons, List.length_nil, Nat.zero_add, true_and, h6, if_true]
theorem o_box_nilP  (h1 : gT T x = .nilP) : ev (gT T) H nr (.box 1 false x) = some (.pt nr 0 0, [(nr, some [[.nilP]])], 1) := by simp only [ev, h1, and_self, if_true]
theorem o_st_nilP  {r0 i0 j0 : Nat} {rows rows' : Rows} {row : List AV} (h1 : gT T x = .pt r0 i0 j0) (h2 : H r0 = some rows) (h3 : rows[i0]? = some row) (h4 : gT T y = .nilP) (h6 : Nat.ble (j0 + 1) row.length = true) (h7 : rows.set i0 (put row j0 [.nilP]) = rows') : ev (gT T) H nr (.st 1 x y) = some (.undef, [(r0, some rows')], 0) := by have h6 := Nat.le_of_ble_eq_true h6; subst h7; simp only [ev, h1, h2, h3, h4, cellsOf, List.length_cons, List.length_nil, Nat.zero_add, true_and, h6, if_true]
theorem o_box_nilF  (h1 : gT T x = .nilF) : ev (gT T) H nr (.box 1 false x) = some (.pt nr 0 0, [(nr, some [[.nilF]])], 1) := by simp only [ev, h1, and_self, if_true]
theorem o_st_nilF  {r0 i0 j0 : Nat} {rows rows' : Rows} {row : List AV} (h1 : gT T x = .pt r0 i0 j0) (h2 : H r0 = some rows) (h3 : rows[i0]? = some row) (h4 : gT T y = .nilF) (h6 : Nat.ble (j0 + 1) row.length = true) (h7 : rows.set i0 (put row j0 [.nilF]) = rows') : ev (gT T) H nr (.st 1 x y) = some (.undef, [(r0, some rows')], 0) := by have h6 := Nat.le_of_ble_eq_true h6; subst h7; simp only [ev, h1, h2, h3, h4, cellsOf, List.length_cons, List.length_nil, Nat.zero_add, true_and, h6, if_true]
theorem o_st_agg {sz : Nat} {cs : List AV} {r0 i0 j0 : Nat} {rows rows' : Rows} {row : List AV} (h1 : gT T x = .pt r0 i0 j0) (h2 : H r0 = some rows) (h3 : rows[i0]? = some row) (h4 : gT T y = .agg cs) (h5 : cs.length = sz) (h6 : Nat.ble (j0 + sz) row.length = true) (h7 : rows.set i0 (put row j0 cs) = rows') : ev (gT T) H nr (.st sz x y) = some (.undef, [(r0, some rows')], 0) := by have h6 := Nat.le_of_ble_eq_true h6; subst h7; simp only [ev, h1, h2, h3, h4, cellsOf, h5, true_and, h6, if_true]
theorem o_mks {sz bytes : Nat} {z : List AV} {n : Nat} (h1 : gT T x = .int .i64 (n : Int)) (h2 : gT T y = .int .i64 (n : Int)) (h3 : n ≤ 4294967296) (h4 : bytes ≤ 4096) : ev (gT T) H nr (.mks sz bytes z x y) = some (.sl nr sz 0 n, [(nr, some (List.replicate n z))], 1) := by
  simp only [ev, h1, h2]
  rw [if_pos ⟨trivial, by omega, by omega, h4⟩]
  simp

end

section
variable {P : Program} {m0 : Nat} {t : List (Nat × AV)} {h : List (Nat × Option Rows)} {nr : Nat} {os : List AO} {Q : EX → St → Prop} {K : St → Prop}
theorem wC_cond_t {x : AX} {a b : AC} (hc : gT (lk t) x = .bool true) (h1 : wpC P m0 a Q ⟨t, h, nr⟩) : wpC P m0 (.cond x a b) Q ⟨t, h, nr⟩ := wC_cond hc (fun _ => h1) (fun h => by cases h)
theorem wC_cond_f {x : AX} {a b : AC} (hc : gT (lk t) x = .bool false) (h1 : wpC P m0 b Q ⟨t, h, nr⟩) : wpC P m0 (.cond x a b) Q ⟨t, h, nr⟩ := wC_cond hc (fun h => by cases h) (fun _ => h1)
theorem wC_cond_d {x : AX} {a b : AC} {p : Prop} {ip : Decidable p} (hc : gT (lk t) x = .bool (decide p)) (h1 : p → wpC P m0 a Q ⟨t, h, nr⟩) (h2 : ¬ p → wpC P m0 b Q ⟨t, h, nr⟩) : wpC P m0 (.cond x a b) Q ⟨t, h, nr⟩ :=
  wC_cond hc (fun h => h1 (of_decide_eq_true h)) (fun h => h2 (of_decide_eq_false h))
end

/-! ### Rows -/
theorem dr_plain {H : Nat → Option Rows} {n : Nat} {v : AV} (h : v.plain = true) : dr H (n + 1) v = v := by
  cases v <;> first | rfl | simp [AV.plain] at h
theorem dr_rows {α : Type} {f : α → List AV} {xs : List α} {H : Nat → Option Rows} {r sz n m : Nat} (h : H r = some (xs.map f)) (hn : n = xs.length) (hp : ∀ x, ∀ v ∈ f x, AV.plain v = true) : dr H (m + 2) (.sl r sz 0 n) = .vw true (xs.map f) := by
  subst hn
  simp only [dr, h, List.drop_zero]
  congr 1
  rw [List.take_of_length_le (by simp), List.map_map]
  refine List.map_congr_left (fun x _ => ?_)
  simp only [Function.comp]
  conv => rhs; rw [← List.map_id (f x)]
  exact List.map_congr_left (fun v hv => dr_plain (hp x v hv))
theorem dr_vw {H : Nat → Option Rows} {n : Nat} {nn : Bool} {es : Rows} : dr H (n + 1) (.vw nn es) = .vw nn es := rfl

/-! Arguments by content. -/
theorem ag_nil {T : Nat → AV} {H : Nat → Option Rows} : (([] : List AX).map (gT T)).map (dr H 6) = [] := rfl
theorem ag_sl {α : Type} {f : α → List AV} {zs : List α} {T : Nat → AV} {H : Nat → Option Rows} {r sz n : Nat} {x : AX} {xs : List AX} {as : List AV} (h1 : gT T x = .sl r sz 0 n) (h2 : H r = some (zs.map f)) (hn : n = zs.length) (hp : ∀ x, ∀ v ∈ f x, AV.plain v = true) (hr : (xs.map (gT T)).map (dr H 6) = as) :
    ((x :: xs).map (gT T)).map (dr H 6) = .vw true (zs.map f) :: as := by
  rw [List.map_cons, List.map_cons, hr, h1, dr_rows (m := 4) h2 hn hp]
theorem ag_vw {nn : Bool} {es : Rows} {T : Nat → AV} {H : Nat → Option Rows} {x : AX} {xs : List AX} {as : List AV} (h1 : gT T x = .vw nn es) (hr : (xs.map (gT T)).map (dr H 6) = as) :
    ((x :: xs).map (gT T)).map (dr H 6) = .vw nn es :: as := by
  rw [List.map_cons, List.map_cons, hr, h1]; rfl
theorem ag_int {k : IntKind} {a : Int} {T : Nat → AV} {H : Nat → Option Rows} {x : AX} {xs : List AX} {as : List AV} (h1 : gT T x = .int k a) (hr : (xs.map (gT T)).map (dr H 6) = as) :
    ((x :: xs).map (gT T)).map (dr H 6) = .int k a :: as := by
  rw [List.map_cons, List.map_cons, hr, h1]; rfl

theorem fill_set {α β : Type} [Inhabited α] (f : α → β) (z : β) (xs : List α) (i : Nat) (h : i < xs.length) : ((xs.take i).map f ++ List.replicate (xs.length - i) z).set i (f (xs.getD i default)) = (xs.take (i + 1)).map f ++ List.replicate (xs.length - (i + 1)) z := by
  have e1 : xs.length - i = (xs.length - (i + 1)) + 1 := by omega
  rw [e1, List.replicate_succ, List.set_append_right _ _ (by simp; omega)]
  have e2 : i - (List.map f (List.take i xs)).length = 0 := by simp; omega
  rw [e2, List.set_cons_zero, List.take_succ_eq_append_getElem h, List.map_append, List.append_assoc]
  congr 1
  simp [List.getD_eq_getElem?_getD, List.getElem?_eq_getElem h]
theorem fill_get {α β : Type} (f : α → β) (z : β) (xs : List α) (i : Nat) (h : i < xs.length) : ((xs.take i).map f ++ List.replicate (xs.length - i) z)[i]? = some z := by
  rw [List.getElem?_append_right (by simp; omega)]
  have e2 : i - (List.map f (List.take i xs)).length = 0 := by simp; omega
  rw [e2]
  have e1 : xs.length - i = (xs.length - (i + 1)) + 1 := by omega
  rw [e1, List.replicate_succ]
  rfl
theorem fill_end {α β : Type} (f : α → β) (z : β) (xs : List α) : (xs.take xs.length).map f ++ List.replicate (xs.length - xs.length) z = xs.map f := by simp

theorem plain_map {α : Type} {f : α → List AV} (hp : ∀ x, ∀ v ∈ f x, AV.plain v = true) (xs : List α) : PlainObjs [xs.map f] := by
  intro rows h row hr x hx
  simp at h; subst h
  obtain ⟨p, _, rfl⟩ := List.mem_map.1 hr
  exact hp p x hx
theorem rows_ltr (xs : List (List AV)) (m : Nat) (h : ∀ row ∈ xs, ∀ x ∈ row, AV.plain x = true) : ∀ row ∈ xs, ∀ x ∈ row, AV.ltr m x = true := by
  intro row hr x hx
  have := h row hr x hx
  cases x <;> first | rfl | simp [AV.plain] at this
theorem fill_plain {α : Type} {f : α → List AV} {z : List AV} (hp : ∀ x, ∀ v ∈ f x, AV.plain v = true) (hz : ∀ v ∈ z, AV.plain v = true) (xs : List α) (i : Nat) : ∀ row ∈ (xs.take i).map f ++ List.replicate (xs.length - i) z, ∀ x ∈ row, AV.plain x = true := by
  intro row hr x hx
  rcases List.mem_append.1 hr with hr | hr
  · obtain ⟨p, _, rfl⟩ := List.mem_map.1 hr
    exact hp p x hx
  · rw [(List.mem_replicate.1 hr).2] at hx
    exact hz x hx

/-- Three plain results. -/
theorem ret_3 {r1 r2 r3 : AOp} {v1 v2 v3 : AV} {s : St} {e : EX} (he : e = .n ∨ e = .r) (p1 : v1.plain = true) (p2 : v2.plain = true) (p3 : v3.plain = true) (h : ∃ w1 w2 w3, retV s r1 = some w1 ∧ retV s r2 = some w2 ∧ retV s r3 = some w3 ∧ w1 = v1 ∧ w2 = v2 ∧ w3 = v3) : Ret [r1, r2, r3] [] (.tup [v1, v2, v3]) [] e s := by
  obtain ⟨w1, w2, w3, h1, h2, h3, rfl, rfl, rfl⟩ := h
  have q : ∀ v : AV, v.plain = true → rn (πof []) v = v ∧ v.ltr 0 = true := by intro v hv; cases v <;> first | exact ⟨rfl, rfl⟩ | simp [AV.plain] at hv
  have : Ret [r1, r2, r3] [] (.tup [w1, w2, w3]) [] .r s := by
    refine ⟨?_, by simp [notOne], ?_, rfl, List.nodup_nil, fun i rows h => by simp at h⟩
    · simp only [retVs, h1, h2, h3, retL, rnL, (q _ p1).1, (q _ p2).1, (q _ p3).1]
    · simp only [List.length_nil, AV.ltr, ltrL, (q _ p1).2, (q _ p2).2, (q _ p3).2, Bool.and_self]
  rcases he with rfl | rfl
  · exact this
  · exact this
theorem ret_2a {r1 r2 : AOp} {cs : List AV} {b : Bool} {s : St} {e : EX} (he : e = .n ∨ e = .r) (hp : rnL (πof []) cs = cs ∧ ltrL 0 cs = true) (h : ∃ w1 w2, retV s r1 = some w1 ∧ retV s r2 = some w2 ∧ w1 = .agg cs ∧ w2 = .bool b) : Ret [r1, r2] [] (.tup [.agg cs, .bool b]) [] e s := by
  obtain ⟨w1, w2, h1, h2, rfl, rfl⟩ := h
  have : Ret [r1, r2] [] (.tup [.agg cs, .bool b]) [] .r s := by
    refine ⟨?_, by simp [notOne], ?_, rfl, List.nodup_nil, fun i rows h => by simp at h⟩
    · simp only [retVs, h1, h2, retL, rnL, rn, hp.1]
    · simp only [List.length_nil, AV.ltr, ltrL, hp.2, Bool.and_self]
  rcases he with rfl | rfl
  · exact this
  · exact this
theorem ret_sl {ro : AOp} {sz off len r : Nat} {rows : Rows} {s : St} {e : EX} (he : e = .n ∨ e = .r) (h0 : retV s ro = some (.sl r sz off len)) (h1 : hg s.h r = some rows) : Ret [ro] [r] (.sl 0 sz off len) [rows] e s := by
  have : Ret [ro] [r] (.sl 0 sz off len) [rows] .r s := by
    refine ⟨?_, trivial, rfl, rfl, by simp, fun i rows' h => ?_⟩
    · simp only [retVs, h0]; rfl
    · cases i with
      | zero => simp at h; subst h; exact h1
      | succ i => simp at h
  rcases he with rfl | rfl
  · exact this
  · exact this
end Go.Proofs.Yteoonedddgiacaa.Ab
