/- By how many years one date is later: the specification's walk. -/
import Derived.Test.YtdljklicegcbpaaLatA
import Derived.Test.YtdljklicegcbpaaAb1
namespace Go.Proofs.Ytdljklicegcbpaa.Dst
open Go Go.Proofs.Ytdljklicegcbpaa.Ab Go.Proofs.Ytdljklicegcbpaa.Il
attribute [local irreducible] wpO wpC wpDr wpQ wpG wpE stepA seqQ blkQ Ret ev
set_option maxRecDepth 10000
set_option maxHeartbeats 8000000
set_option linter.unusedSimpArgs false
set_option linter.unusedVariables false
theorem laL_b {a b : Ds} (ha : GoodD a) (hb : GoodD b) : bnd (laL a b) 60000000000000 := tab_bnd (fun i _ => ls_c ha hb _ (Nat.le_refl _))
theorem con42_all (nn mm : Bool) (a b : Ds) (h1 : a.ws.length ≤ 1048576) (h2 : b.ws.length ≤ 1048576) (v : AV) (rs : List Nat) (objs : List Ab.Rows) (hv : v.nvf = true) (hp : PlainObjs objs)
    (hend : (laOK a b → v = dYes (mkO (laF a b) (laL a b)) ∧ rs = [4] ∧ objs = [(mkO (laF a b) (laL a b)).ws.map iRow]) ∧ (¬ laOK a b → v = dNo ∧ rs = [] ∧ objs = [])) :
    Con Try.prog 42 true [.agg (dRow nn a), .agg (dRow mm b)] v objs := by
  classical
  suffices key : Con Try.prog 42 v.nvf [.agg (dRow nn a), .agg (dRow mm b)] v objs by rwa [hv] at key
  refine con_of_wp mixed fun42 (by simp) rs hp ?_
  unfold ac42 ro42
  simp only [zipT]
  have c1 := con60 nn a h1
  have c2 := con60 mm b h2
  by_cases hA : GoodD a
  · rw [decide_eq_true hA] at c1
    by_cases hB : GoodD b
    · rw [decide_eq_true hB] at c2
      have hf := hA.2.1
      have h60 := hA.1
      have hfb := hB.2.1
      have h6b := hB.1
      have hok : laOK a b ↔ mkOK (laF a b) (laL a b) := ⟨fun h => h.2, fun h => ⟨⟨hA, hB⟩, h⟩⟩
      have hlf : laF a b = b.f - (a.f + a.ws.length - 1) := rfl
      have hln : laN a b = a.ws.length + b.ws.length - 1 := rfl
      have hlc : (laL a b).length = laN a b := tab_len _ _ _
      have cy := fun h => con82_yes true (laF a b) (laL a b) (by omega) (laL_b hA hB) (by decide) (by omega) (by omega) h
      have cn := fun h => con82_no true (laF a b) (laL a b) (by omega) (laL_b hA hB) (by decide) (by omega) (by omega) h
      have hgl := fun i k => gen_len a b i k
      have hgg := fun i k t (h : t < laN a b) => gen_get (a := a) (b := b) (i := i) (k := k) h
      have hgs := fun i k t (h : t + i + 1 = a.ws.length + k) => gen_set (a := a) (b := b) h
      have hgr := fun i (h : i < a.ws.length) => gen_row a b h
      have hgz := gen_zero a b
      have hge := gen_end a b
      have heb := fun i k t (h : i < a.ws.length) (hk : k ≤ b.ws.length) => el_b hA hB (t := t) h hk
      have hba := fun i (h : i < a.ws.length) => hA.bnd i h
      have hbb := fun i (h : i < b.ws.length) => hB.bnd i h
      obtain ⟨fa, wa⟩ := a
      obtain ⟨fb, wb⟩ := b
      unfold dRow dYes dNo at *
      simp only at *
      generalize hLN : laN ⟨fa, wa⟩ ⟨fb, wb⟩ = L at *
      repeat (first | refine wG_call c1 rfl rfl ?_ | refine wG_call c2 rfl rfl ?_ | refine wG_new (o_mksZ (n := L) (by omega) rfl rfl (by omega) (by decide)) ?_ | (first
    | refine wC_a rfl ?_
    | refine q_s rfl ?_
    | refine q_b rfl ?_
    | refine wG_nil ?_
    | refine wG_g rfl ?_
    | refine wG_pure (o_len_vwm rfl) ?_
    | refine wG_pure (o_not_d rfl) ?_
    | refine wG_p rfl (by first | exact rfl | omega) ?_
    | refine wG_pure (o_not rfl) ?_
    | refine wG_pure (e_ia_vw0 rfl rfl (by omega) rfl) ?_
    | refine wG_pure (e_ia_vwp rfl rfl (by omega) rfl) ?_
    | refine wG_pure (e_ia_vwm rfl rfl (by omega) (by omega) rfl) ?_
    | refine wG_pure (e_ia_vwi rfl rfl (by omega) rfl) ?_
    | refine wG_pure (e_ia_vwn rfl rfl (by omega) (by omega) rfl) ?_
    | refine wG_n rfl rfl ?_
    | refine wG_u rfl rfl ?_
    | refine wG_new (o_mks rfl rfl (by omega) (by decide)) ?_))
      refine wC_loop Nat (fun i => ⟨[(2, .pt 0 0 0), (3, .pt 1 0 0), (4, .pt 2 0 0), (6, .int .i64 (wa.length : Int)), (7, .int .i64 (wb.length : Int)), (8, .sl 3 1 0 L), (9, .int .i64 (i : Int))], [(3, some ((gen ⟨fa, wa⟩ ⟨fb, wb⟩ i 0).map iRow)), (2, some [[.int .i64 0, .nilS]]), (1, some [[.int .i64 fb, .vw mm (wb.map iRow)]]), (0, some [[.int .i64 fa, .vw nn (wa.map iRow)]])], 4⟩) (fun i => i ≤ wa.length) (fun i => wa.length - i) 0 (Nat.zero_le _) ?_ (fun _ _ => Nat.zero_le _) ?_
      · refine ⟨⟨⟨rfl, rfl⟩, ⟨rfl, rfl⟩, ⟨rfl, rfl⟩, ⟨rfl, rfl⟩, ⟨rfl, rfl⟩, ⟨rfl, rfl⟩, ⟨rfl, rfl⟩, trivial⟩, ⟨?_, (by show 3 < 4; decide), ltrI _ _⟩, ⟨rfl, (by show 2 < 4; decide), by simp [AV.ltr]⟩, ⟨rfl, (by show 1 < 4; decide), by simp [AV.ltr]⟩, ⟨rfl, (by show 0 < 4; decide), by simp [AV.ltr]⟩, trivial⟩
        rw [hgz, List.map_replicate]; rfl
      intro i hi
      repeat (first
    | refine wC_a rfl ?_
    | refine q_s rfl ?_
    | refine q_b rfl ?_
    | refine wG_nil ?_
    | refine wG_g rfl ?_
    | refine wG_pure (o_len_vwm rfl) ?_
    | refine wG_pure (o_not_d rfl) ?_
    | refine wG_p rfl (by first | exact rfl | omega) ?_
    | refine wG_pure (o_not rfl) ?_
    | refine wG_pure (e_ia_vw0 rfl rfl (by omega) rfl) ?_
    | refine wG_pure (e_ia_vwp rfl rfl (by omega) rfl) ?_
    | refine wG_pure (e_ia_vwm rfl rfl (by omega) (by omega) rfl) ?_
    | refine wG_pure (e_ia_vwi rfl rfl (by omega) rfl) ?_
    | refine wG_pure (e_ia_vwn rfl rfl (by omega) (by omega) rfl) ?_
    | refine wG_n rfl rfl ?_
    | refine wG_u rfl rfl ?_
    | refine wG_new (o_mks rfl rfl (by omega) (by decide)) ?_)
      refine wC_cond_d rfl (fun h3 => ?_) (fun h3 => ?_)
      · have hi2 : i < wa.length := by omega
        repeat (first
    | refine wC_a rfl ?_
    | refine q_s rfl ?_
    | refine q_b rfl ?_
    | refine wG_nil ?_
    | refine wG_g rfl ?_
    | refine wG_pure (o_len_vwm rfl) ?_
    | refine wG_pure (o_not_d rfl) ?_
    | refine wG_p rfl (by first | exact rfl | omega) ?_
    | refine wG_pure (o_not rfl) ?_
    | refine wG_pure (e_ia_vw0 rfl rfl (by omega) rfl) ?_
    | refine wG_pure (e_ia_vwp rfl rfl (by omega) rfl) ?_
    | refine wG_pure (e_ia_vwm rfl rfl (by omega) (by omega) rfl) ?_
    | refine wG_pure (e_ia_vwi rfl rfl (by omega) rfl) ?_
    | refine wG_pure (e_ia_vwn rfl rfl (by omega) (by omega) rfl) ?_
    | refine wG_n rfl rfl ?_
    | refine wG_u rfl rfl ?_
    | refine wG_new (o_mks rfl rfl (by omega) (by decide)) ?_)
        refine wC_loop Nat (fun k => ⟨[(2, .pt 0 0 0), (3, .pt 1 0 0), (4, .pt 2 0 0), (6, .int .i64 (wa.length : Int)), (7, .int .i64 (wb.length : Int)), (8, .sl 3 1 0 L), (9, .int .i64 (i : Int)), (10, .int .i64 (k : Int))], [(3, some ((gen ⟨fa, wa⟩ ⟨fb, wb⟩ i k).map iRow)), (2, some [[.int .i64 0, .nilS]]), (1, some [[.int .i64 fb, .vw mm (wb.map iRow)]]), (0, some [[.int .i64 fa, .vw nn (wa.map iRow)]])], 4⟩) (fun k => k ≤ wb.length) (fun k => wb.length - k) 0 (Nat.zero_le _) ?_ (fun _ _ => Nat.zero_le _) ?_
        · exact ⟨⟨⟨rfl, rfl⟩, ⟨rfl, rfl⟩, ⟨rfl, rfl⟩, ⟨rfl, rfl⟩, ⟨rfl, rfl⟩, ⟨rfl, rfl⟩, ⟨rfl, rfl⟩, ⟨rfl, rfl⟩, trivial⟩, ⟨rfl, (by show 3 < 4; decide), ltrI _ _⟩, ⟨rfl, (by show 2 < 4; decide), by simp [AV.ltr]⟩, ⟨rfl, (by show 1 < 4; decide), by simp [AV.ltr]⟩, ⟨rfl, (by show 0 < 4; decide), by simp [AV.ltr]⟩, trivial⟩
        intro k hk
        repeat (first
    | refine wC_a rfl ?_
    | refine q_s rfl ?_
    | refine q_b rfl ?_
    | refine wG_nil ?_
    | refine wG_g rfl ?_
    | refine wG_pure (o_len_vwm rfl) ?_
    | refine wG_pure (o_not_d rfl) ?_
    | refine wG_p rfl (by first | exact rfl | omega) ?_
    | refine wG_pure (o_not rfl) ?_
    | refine wG_pure (e_ia_vw0 rfl rfl (by omega) rfl) ?_
    | refine wG_pure (e_ia_vwp rfl rfl (by omega) rfl) ?_
    | refine wG_pure (e_ia_vwm rfl rfl (by omega) (by omega) rfl) ?_
    | refine wG_pure (e_ia_vwi rfl rfl (by omega) rfl) ?_
    | refine wG_pure (e_ia_vwn rfl rfl (by omega) (by omega) rfl) ?_
    | refine wG_n rfl rfl ?_
    | refine wG_u rfl rfl ?_
    | refine wG_new (o_mks rfl rfl (by omega) (by decide)) ?_)
        refine wC_cond_d rfl (fun h4 => ?_) (fun h4 => ?_)
        · have hk2 : k < wb.length := by omega
          have hk3 : (k + (wa.length - 1 - i)) + i + 1 = wa.length + k := by omega
          have hlt : k + (wa.length - 1 - i) < L := by omega
          have hpos := hgg i k _ hlt
          have hset := hgs i k _ hk3
          have hel := heb i k (k + (wa.length - 1 - i)) hi2 hk
          generalize el ⟨fa, wa⟩ ⟨fb, wb⟩ i k (k + (wa.length - 1 - i)) = ev0 at *
          have e0 : 0 + ((k : Int) - (i : Int) + (wa.length : Int) - 1).toNat = k + (wa.length - 1 - i) := by omega
          generalize k + (wa.length - 1 - i) = tt at *
          have m1 := mul_w (hba i hi2) (hbb k hk2)
          repeat (first | (refine wE_pure (e_ia_sl rfl rfl (by omega) (by omega)) rfl ?_; simp only [e0]) | refine wE_pure (o_ldf_pt rfl rfl hpos rfl) rfl ?_ | refine wE_upd (o_st_int rfl rfl hpos rfl rfl rfl) rfl ?_ | (first
    | refine wC_a rfl ?_
    | refine q_s rfl ?_
    | refine q_b rfl ?_
    | refine wG_nil ?_
    | refine wG_g rfl ?_
    | refine wG_pure (o_len_vwm rfl) ?_
    | refine wG_pure (o_not_d rfl) ?_
    | refine wG_p rfl (by first | exact rfl | omega) ?_
    | refine wG_pure (o_not rfl) ?_
    | refine wG_pure (e_ia_vw0 rfl rfl (by omega) rfl) ?_
    | refine wG_pure (e_ia_vwp rfl rfl (by omega) rfl) ?_
    | refine wG_pure (e_ia_vwm rfl rfl (by omega) (by omega) rfl) ?_
    | refine wG_pure (e_ia_vwi rfl rfl (by omega) rfl) ?_
    | refine wG_pure (e_ia_vwn rfl rfl (by omega) (by omega) rfl) ?_
    | refine wG_n rfl rfl ?_
    | refine wG_u rfl rfl ?_
    | refine wG_new (o_mks rfl rfl (by omega) (by decide)) ?_) | (first
    | refine wE_nil rfl ?_
    | refine wE_gy rfl ?_
    | refine wE_gn rfl rfl rfl ?_
    | refine wE_gu rfl rfl ?_
    | refine wE_gnn rfl rfl rfl ?_
    | refine wE_v (o_len_vwm rfl) rfl ?_
    | refine wE_v (o_not_d rfl) rfl ?_
    | refine wE_p rfl (by first | exact rfl | omega) rfl ?_
    | refine wE_v (o_not rfl) rfl ?_
    | refine wE_v (e_ia_vw0 rfl rfl (by omega) rfl) rfl ?_
    | refine wE_v (e_ia_vwp rfl rfl (by omega) rfl) rfl ?_
    | refine wE_v (e_ia_vwm rfl rfl (by omega) (by omega) rfl) rfl ?_
    | refine wE_v (e_ia_vwi rfl rfl (by omega) rfl) rfl ?_
    | refine wE_v (e_ia_vwn rfl rfl (by omega) (by omega) rfl) rfl ?_
    | refine wE_n rfl rfl rfl ?_
    | refine wE_u rfl rfl rfl ?_
    | refine wE_new (o_mks rfl rfl (by omega) (by decide)) rfl ?_))
          refine ⟨k + 1, by omega, by omega, ⟨⟨rfl, rfl⟩, ⟨rfl, rfl⟩, ⟨rfl, rfl⟩, ⟨rfl, rfl⟩, ⟨rfl, rfl⟩, ⟨rfl, rfl⟩, ⟨rfl, rfl⟩, ⟨rfl, rfl⟩, trivial⟩, ⟨?_, (by show 3 < 4; decide), ltrI _ _⟩, ⟨rfl, (by show 2 < 4; decide), by simp [AV.ltr]⟩, ⟨rfl, (by show 1 < 4; decide), by simp [AV.ltr]⟩, ⟨rfl, (by show 0 < 4; decide), by simp [AV.ltr]⟩, trivial⟩
          rw [← hset, List.map_set]
          rfl
        · have hk3 : k = wb.length := by omega
          subst hk3
          rw [hgr i hi2]
          repeat (first
    | refine wC_a rfl ?_
    | refine q_s rfl ?_
    | refine q_b rfl ?_
    | refine wG_nil ?_
    | refine wG_g rfl ?_
    | refine wG_pure (o_len_vwm rfl) ?_
    | refine wG_pure (o_not_d rfl) ?_
    | refine wG_p rfl (by first | exact rfl | omega) ?_
    | refine wG_pure (o_not rfl) ?_
    | refine wG_pure (e_ia_vw0 rfl rfl (by omega) rfl) ?_
    | refine wG_pure (e_ia_vwp rfl rfl (by omega) rfl) ?_
    | refine wG_pure (e_ia_vwm rfl rfl (by omega) (by omega) rfl) ?_
    | refine wG_pure (e_ia_vwi rfl rfl (by omega) rfl) ?_
    | refine wG_pure (e_ia_vwn rfl rfl (by omega) (by omega) rfl) ?_
    | refine wG_n rfl rfl ?_
    | refine wG_u rfl rfl ?_
    | refine wG_new (o_mks rfl rfl (by omega) (by decide)) ?_)
          exact ⟨i + 1, by omega, by omega, ⟨⟨rfl, rfl⟩, ⟨rfl, rfl⟩, ⟨rfl, rfl⟩, ⟨rfl, rfl⟩, ⟨rfl, rfl⟩, ⟨rfl, rfl⟩, ⟨rfl, rfl⟩, trivial⟩, ⟨rfl, (by show 3 < 4; decide), ltrI _ _⟩, ⟨rfl, (by show 2 < 4; decide), by simp [AV.ltr]⟩, ⟨rfl, (by show 1 < 4; decide), by simp [AV.ltr]⟩, ⟨rfl, (by show 0 < 4; decide), by simp [AV.ltr]⟩, trivial⟩
      · have hi3 : i = wa.length := by omega
        subst hi3
        rw [hge]
        have ef : fb - fa - (wa.length : Int) + 1 = laF ⟨fa, wa⟩ ⟨fb, wb⟩ := by omega
        by_cases hm : mkOK (laF ⟨fa, wa⟩ ⟨fb, wb⟩) (laL ⟨fa, wa⟩ ⟨fb, wb⟩)
        · obtain ⟨rfl, rfl, rfl⟩ := hend.1 (hok.2 hm)
          have c := cy hm
          rw [← ef] at c
          repeat (first | refine wG_call1 c (ag_int rfl (ag_sl rfl rfl hlc.symm iRow_plain ag_nil)) rfl ?_ | (first
    | refine wC_a rfl ?_
    | refine q_s rfl ?_
    | refine q_b rfl ?_
    | refine wG_nil ?_
    | refine wG_g rfl ?_
    | refine wG_pure (o_len_vwm rfl) ?_
    | refine wG_pure (o_not_d rfl) ?_
    | refine wG_p rfl (by first | exact rfl | omega) ?_
    | refine wG_pure (o_not rfl) ?_
    | refine wG_pure (e_ia_vw0 rfl rfl (by omega) rfl) ?_
    | refine wG_pure (e_ia_vwp rfl rfl (by omega) rfl) ?_
    | refine wG_pure (e_ia_vwm rfl rfl (by omega) (by omega) rfl) ?_
    | refine wG_pure (e_ia_vwi rfl rfl (by omega) rfl) ?_
    | refine wG_pure (e_ia_vwn rfl rfl (by omega) (by omega) rfl) ?_
    | refine wG_n rfl rfl ?_
    | refine wG_u rfl rfl ?_
    | refine wG_new (o_mks rfl rfl (by omega) (by decide)) ?_))
          rw [← ef]
          exact ret_db (.inr rfl) rfl (retV_ldt rfl rfl rfl rfl rfl) (retV_mv rfl) rfl
        · obtain ⟨rfl, rfl, rfl⟩ := hend.2 (fun h => hm (hok.1 h))
          have c := cn hm
          rw [← ef] at c
          repeat (first | refine wG_call c (ag_int rfl (ag_sl rfl rfl hlc.symm iRow_plain ag_nil)) rfl ?_ | (first
    | refine wC_a rfl ?_
    | refine q_s rfl ?_
    | refine q_b rfl ?_
    | refine wG_nil ?_
    | refine wG_g rfl ?_
    | refine wG_pure (o_len_vwm rfl) ?_
    | refine wG_pure (o_not_d rfl) ?_
    | refine wG_p rfl (by first | exact rfl | omega) ?_
    | refine wG_pure (o_not rfl) ?_
    | refine wG_pure (e_ia_vw0 rfl rfl (by omega) rfl) ?_
    | refine wG_pure (e_ia_vwp rfl rfl (by omega) rfl) ?_
    | refine wG_pure (e_ia_vwm rfl rfl (by omega) (by omega) rfl) ?_
    | refine wG_pure (e_ia_vwi rfl rfl (by omega) rfl) ?_
    | refine wG_pure (e_ia_vwn rfl rfl (by omega) (by omega) rfl) ?_
    | refine wG_n rfl rfl ?_
    | refine wG_u rfl rfl ?_
    | refine wG_new (o_mks rfl rfl (by omega) (by decide)) ?_))
          exact ret_d0 (.inr rfl) rfl (retV_ldt rfl rfl rfl rfl rfl) (retV_mv rfl)
    · rw [decide_eq_false hB] at c2
      obtain ⟨rfl, rfl, rfl⟩ := hend.2 (fun h => hB h.1.2)
      unfold dRow dNo at *
      repeat (first | refine wG_call c1 rfl rfl ?_ | refine wG_call c2 rfl rfl ?_ | (first
    | refine wC_a rfl ?_
    | refine q_s rfl ?_
    | refine q_b rfl ?_
    | refine wG_nil ?_
    | refine wG_g rfl ?_
    | refine wG_pure (o_len_vwm rfl) ?_
    | refine wG_pure (o_not_d rfl) ?_
    | refine wG_p rfl (by first | exact rfl | omega) ?_
    | refine wG_pure (o_not rfl) ?_
    | refine wG_pure (e_ia_vw0 rfl rfl (by omega) rfl) ?_
    | refine wG_pure (e_ia_vwp rfl rfl (by omega) rfl) ?_
    | refine wG_pure (e_ia_vwm rfl rfl (by omega) (by omega) rfl) ?_
    | refine wG_pure (e_ia_vwi rfl rfl (by omega) rfl) ?_
    | refine wG_pure (e_ia_vwn rfl rfl (by omega) (by omega) rfl) ?_
    | refine wG_n rfl rfl ?_
    | refine wG_u rfl rfl ?_
    | refine wG_new (o_mks rfl rfl (by omega) (by decide)) ?_))
      exact ret_d0 (.inr rfl) rfl (retV_ldt rfl rfl rfl rfl rfl) (retV_mv rfl)
  · rw [decide_eq_false hA] at c1
    obtain ⟨rfl, rfl, rfl⟩ := hend.2 (fun h => hA h.1.1)
    unfold dRow dNo at *
    repeat (first | refine wG_call c1 rfl rfl ?_ | (first
    | refine wC_a rfl ?_
    | refine q_s rfl ?_
    | refine q_b rfl ?_
    | refine wG_nil ?_
    | refine wG_g rfl ?_
    | refine wG_pure (o_len_vwm rfl) ?_
    | refine wG_pure (o_not_d rfl) ?_
    | refine wG_p rfl (by first | exact rfl | omega) ?_
    | refine wG_pure (o_not rfl) ?_
    | refine wG_pure (e_ia_vw0 rfl rfl (by omega) rfl) ?_
    | refine wG_pure (e_ia_vwp rfl rfl (by omega) rfl) ?_
    | refine wG_pure (e_ia_vwm rfl rfl (by omega) (by omega) rfl) ?_
    | refine wG_pure (e_ia_vwi rfl rfl (by omega) rfl) ?_
    | refine wG_pure (e_ia_vwn rfl rfl (by omega) (by omega) rfl) ?_
    | refine wG_n rfl rfl ?_
    | refine wG_u rfl rfl ?_
    | refine wG_new (o_mks rfl rfl (by omega) (by decide)) ?_))
    exact ret_d0 (.inr rfl) rfl (retV_ldt rfl rfl rfl rfl rfl) (retV_mv rfl)
theorem con42_yes (nn mm : Bool) (a b : Ds) (h1 : a.ws.length ≤ 1048576) (h2 : b.ws.length ≤ 1048576) (h : laOK a b) : Con Try.prog 42 true [.agg (dRow nn a), .agg (dRow mm b)] (dYes (mkO (laF a b) (laL a b))) [(mkO (laF a b) (laL a b)).ws.map iRow] :=
  con42_all nn mm a b h1 h2 _ [4] _ rfl (plain_map iRow_plain _) ⟨fun _ => ⟨rfl, rfl, rfl⟩, fun hn => absurd h hn⟩
theorem con42_no (nn mm : Bool) (a b : Ds) (h1 : a.ws.length ≤ 1048576) (h2 : b.ws.length ≤ 1048576) (h : ¬ laOK a b) : Con Try.prog 42 true [.agg (dRow nn a), .agg (dRow mm b)] dNo [] :=
  con42_all nn mm a b h1 h2 _ [] _ rfl plain_nil ⟨fun hy => absurd hy h, fun _ => ⟨rfl, rfl, rfl⟩⟩
theorem con43_yes (nn mm : Bool) (a b : Ds) (h1 : a.ws.length ≤ 1048576) (h2 : b.ws.length ≤ 1048576) (h : laOK a b) : Con Try.prog 43 true [.agg (dRow nn a), .agg (dRow mm b)] (dYes (mkO (laF a b) (laL a b))) [(mkO (laF a b) (laL a b)).ws.map iRow] :=
  con43_all nn mm a b h1 h2 _ [3] _ rfl (plain_map iRow_plain _) ⟨fun _ => ⟨rfl, rfl, rfl⟩, fun hn => absurd h hn⟩
theorem con43_no (nn mm : Bool) (a b : Ds) (h1 : a.ws.length ≤ 1048576) (h2 : b.ws.length ≤ 1048576) (h : ¬ laOK a b) : Con Try.prog 43 true [.agg (dRow nn a), .agg (dRow mm b)] dNo [] :=
  con43_all nn mm a b h1 h2 _ [] _ rfl plain_nil ⟨fun hy => absurd hy h, fun _ => ⟨rfl, rfl, rfl⟩⟩
end Go.Proofs.Ytdljklicegcbpaa.Dst
