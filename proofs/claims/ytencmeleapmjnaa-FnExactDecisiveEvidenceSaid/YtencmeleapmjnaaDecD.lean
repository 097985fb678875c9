/- Decisive evidence: the reference. -/
import Derived.Test.YtencmeleapmjnaaDecC
import Derived.Test.YtencmeleapmjnaaDecA
namespace Go.Proofs.Ytencmeleapmjnaa.Rec
open Go Go.Proofs.Ytencmeleapmjnaa.Ab Go.Proofs.Ytencmeleapmjnaa.Il
attribute [local irreducible] wpO wpC wpDr wpQ wpG wpE stepA seqQ blkQ Ret RetG ev
set_option maxRecDepth 10000
set_option maxHeartbeats 8000000
set_option linter.unusedSimpArgs false
set_option linter.unusedVariables false

def ac9 : AC := (.seq (.reg [⟨(some 2), none, (.box 2 true (.t 0))⟩, ⟨(some 4), none, (.mv (.c .nilS))⟩, ⟨(some 5), none, (.mv (.c (.bool false)))⟩]) (.seq (.reg [⟨(some 14), none, (.bsl 1 [(.int .i64 0)] 0 [])⟩, ⟨(some 6), none, (.mv (.t 14))⟩]) (.seq (.reg [⟨(some 16), none, (.ld true 2 (.t 2))⟩, ⟨(some 17), none, (.mv (.t 1))⟩, ⟨(some 18), none, (.call 20 [(.t 16), (.t 17)])⟩, ⟨(some 15), none, (.mv (.t 18))⟩, ⟨(some 19), none, (.ext (.t 15) 0)⟩, ⟨(some 20), none, (.ext (.t 15) 1)⟩, ⟨(some 7), none, (.mv (.t 19))⟩, ⟨(some 8), none, (.mv (.t 20))⟩]) (.seq (.seq (.reg [⟨(some 21), none, (.mv (.t 8))⟩, ⟨(some 22), none, (.un .not (.t 21))⟩]) (.cond (.t 22) (.seq (.reg [⟨(some 23), none, (.mv (.t 6))⟩, ⟨(some 4), none, (.mv (.t 23))⟩, ⟨(some 5), none, (.mv (.c (.bool false)))⟩]) .ret) .skip)) (.seq (.seq (.reg [⟨(some 9), none, (.mv (.c (.int .i64 0)))⟩]) (.blk 0 (.loop (.seq (.seq (.reg [⟨(some 24), none, (.mv (.t 9))⟩, ⟨(some 25), none, (.mv (.t 1))⟩, ⟨(some 26), none, (.len (.t 25))⟩, ⟨(some 27), none, (.bin .lss (.t 24) (.t 26))⟩]) (.cond (.t 27) .skip (.exit 0))) (.seq (.blk 1 (.seq (.dreg [⟨(some 30), none, (.bsl 3 [(.int .i64 0), (.int .i64 0), (.int .i64 0)] 0 [])⟩, ⟨(some 31), none, (.mv (.t 1))⟩, ⟨(some 32), none, (.mv (.t 9))⟩, ⟨(some 33), none, (.slc 3 (.t 31) none (some (.t 32)))⟩, ⟨(some 34), none, (.app 3 24 [(.int .i64 0), (.int .i64 0), (.int .i64 0)] (.t 30) (.t 33))⟩, ⟨(some 35), none, (.mv (.t 1))⟩, ⟨(some 36), none, (.mv (.t 9))⟩, ⟨(some 37), none, (.bin .add (.t 36) (.c (.int .i64 1)))⟩, ⟨(some 38), none, (.slc 3 (.t 35) (some (.t 37)) none)⟩, ⟨(some 39), none, (.app 3 24 [(.int .i64 0), (.int .i64 0), (.int .i64 0)] (.t 34) (.t 38))⟩, ⟨(some 10), none, (.mv (.t 39))⟩] [[], [], [], [1, 2], [0, 1, 2, 3], [], [], [6], [5, 6, 7], [0, 1, 2, 3, 4, 5, 6, 7, 8], [0, 1, 2, 3, 4, 5, 6, 7, 8, 9]]) (.seq (.reg [⟨(some 41), none, (.ld true 2 (.t 2))⟩, ⟨(some 42), none, (.mv (.t 10))⟩, ⟨(some 43), none, (.call 31 [(.t 41), (.t 42)])⟩, ⟨(some 40), none, (.mv (.t 43))⟩, ⟨(some 44), none, (.ext (.t 40) 0)⟩, ⟨(some 45), none, (.ext (.t 40) 1)⟩, ⟨(some 11), none, (.mv (.t 44))⟩, ⟨(some 12), none, (.mv (.t 45))⟩]) (.seq (.reg [⟨(some 13), none, (.mv (.c (.int .i64 0)))⟩]) (.blk 2 (.loop (.seq (.seq (.reg [⟨(some 46), none, (.mv (.t 13))⟩, ⟨(some 47), none, (.mv (.t 7))⟩, ⟨(some 48), none, (.len (.t 47))⟩, ⟨(some 49), none, (.bin .lss (.t 46) (.t 48))⟩]) (.cond (.t 49) .skip (.exit 2))) (.seq (.blk 3 (.seq (.dreg [⟨(some 52), none, (.mv (.t 11))⟩, ⟨(some 53), none, (.mv (.t 13))⟩, ⟨(some 54), none, (.ia 2 (.t 52) (.t 53))⟩, ⟨(some 55), none, (.ld true 2 (.t 54))⟩, ⟨(some 56), none, (.mv (.t 7))⟩, ⟨(some 57), none, (.mv (.t 13))⟩, ⟨(some 58), none, (.ia 2 (.t 56) (.t 57))⟩, ⟨(some 59), none, (.ld true 2 (.t 58))⟩, ⟨(some 60), none, (.eqg true 2 (.t 55) (.t 59))⟩] [[], [], [0, 1], [0, 1, 2], [], [], [4, 5], [4, 5, 6], [0, 1, 2, 3, 4, 5, 6, 7]]) (.cond (.t 60) (.reg [⟨(some 61), none, (.mv (.t 6))⟩, ⟨(some 62), none, (.mv (.t 1))⟩, ⟨(some 63), none, (.mv (.t 9))⟩, ⟨(some 64), none, (.ia 3 (.t 62) (.t 63))⟩, ⟨(some 65), none, (.fa 0 (.t 64))⟩, ⟨(some 66), none, (.ld false 1 (.t 65))⟩, ⟨(some 67), none, (.call 32 [(.t 61), (.t 66)])⟩, ⟨(some 6), none, (.mv (.t 67))⟩]) .skip))) (.reg [⟨(some 50), none, (.mv (.t 13))⟩, ⟨(some 51), none, (.bin .add (.t 50) (.c (.int .i64 1)))⟩, ⟨(some 13), none, (.mv (.t 51))⟩]))))))))) (.reg [⟨(some 28), none, (.mv (.t 9))⟩, ⟨(some 29), none, (.bin .add (.t 28) (.c (.int .i64 1)))⟩, ⟨(some 9), none, (.mv (.t 29))⟩])))))) (.seq (.reg [⟨(some 68), none, (.mv (.t 6))⟩, ⟨(some 4), none, (.mv (.t 68))⟩, ⟨(some 5), none, (.mv (.c (.bool true)))⟩]) .ret))))))
def ro9 : List AOp := [(.mv (.t 4)), (.mv (.t 5))]
theorem fun9 : Fun Try.prog 9 69 ac9 ro9 := ⟨Try.f9, _, Try.func9, by kernel_rfl, rfl, rfl, by kernel_rfl, by kernel_rfl, by decide⟩

theorem sh_putI (T : List Int) (s : Int) (hlen : T.length ≤ 2000000) {h : List (Nat × Option Ab.Rows)} {nr r : Nat} (hr : hg h r = some (T.map iRow)) (hw : wfH h nr) :
    ∃ q nr', nr ≤ nr' ∧ q < nr' ∧ (q = r ∨ nr ≤ q) ∧ Sh Try.prog 32 [.sl r 1 0 T.length, .int .i64 s] h nr (.sl q 1 0 (putI T s).length) ((q, some ((putI T s).map iRow)) :: h) nr' := by
  by_cases hin : isII T s
  · exact ⟨r, nr, Nat.le_refl _, (hw r _ hr).1, .inl rfl, sh32_y T s hlen hr hw hin⟩
  · have hle := lowI_le s T
    by_cases hi0 : 0 < lowI s T
    · by_cases hd : lowI s T < T.length
      · exact ⟨nr + 1 + 1 + 1 + 1, nr + 1 + 1 + 1 + 1 + 1, by omega, by omega, .inr (by omega), sh32_a T s hlen hr hw hin hi0 hd⟩
      · exact ⟨nr + 1 + 1 + 1, nr + 1 + 1 + 1 + 1, by omega, by omega, .inr (by omega), sh32_b T s hlen hr hw hin hi0 (by omega)⟩
    · by_cases hd : lowI s T < T.length
      · exact ⟨nr + 1 + 1 + 1, nr + 1 + 1 + 1 + 1, by omega, by omega, .inr (by omega), sh32_c T s hlen hr hw hin (by omega) hd⟩
      · exact ⟨nr + 1 + 1, nr + 1 + 1 + 1, by omega, by omega, .inr (by omega), sh32_e T s hlen hr hw hin (by omega) (by omega)⟩
section
variable {P : Program} {t : List (Nat × AV)} {h : List (Nat × Option Ab.Rows)} {nr : Nat} {os : List AO} {K : St → Prop} {A : List (List Nat)} {acc : List (List Nat × List Nat)}
/-- More elements for a full list, none or some. -/
theorem wE_appX {d sz bytes r n : Nat} {z : List AV} {rows new : Ab.Rows} {x y : AX} {rd : List Nat} (h1 : gT (lk t) x = .sl r sz 0 n) (h2 : hg h r = some rows) (h3 : n = rows.length) (hrn : r < nr) (h4 : rowsOf (hg h) sz (gT (lk t) y) = some new) (h6 : n + new.length ≤ 4294967296) (h7 : bytes ≤ 4096)
    (hr : rds (.app sz bytes z x y) (gT (lk t)) (hg h) = rd)
    (hw : ∀ (q : Nat) (h' : List (Nat × Option Ab.Rows)) (nr' : Nat) (W : List Nat), nr ≤ nr' → q < nr' → (q = r ∨ nr ≤ q) → hg h' q = some (rows ++ new) → (∀ p rw, p ≠ r → p < nr → hg h p = some rw → hg h' p = some rw) → wpE P A os ⟨(d, .sl q sz 0 (n + new.length)) :: t, h', nr'⟩ ((W, rd) :: acc) K) :
    wpE P A (⟨some d, none, .app sz bytes z x y⟩ :: os) ⟨t, h, nr⟩ acc K := by
  by_cases h0 : new = []
  · subst h0
    refine wE_appZ h1 h2 h3 h4 hr ?_
    have := hw r ((r, some rows) :: h) nr [r] (Nat.le_refl _) hrn (.inl rfl) (by rw [List.append_nil]; exact hg_here) (fun p rw hp _ hh => hg_skip hp hh)
    simpa using this
  · refine wE_app h1 h2 h3 h4 (by cases new with | nil => exact absurd rfl h0 | cons a l => simp) h6 h7 hr ?_
    exact hw nr ((r, none) :: (nr, some (rows ++ new)) :: h) (nr + 1) [r, nr] (by omega) (by omega) (.inr (Nat.le_refl _)) (hg_skip (by omega) hg_here) (fun p rw hp hn hh => hg_skip hp (hg_skip (by omega) hh))
end
theorem iv_ne {x y : Iv} : ¬ (x.f = y.f ∧ x.t = y.t) ↔ x ≠ y := by
  constructor
  · intro h e; subst e; exact h ⟨rfl, rfl⟩
  · rintro h ⟨h1, h2⟩
    obtain ⟨a, b⟩ := x
    obtain ⟨c, d⟩ := y
    simp only at h1 h2
    subst h1; subst h2
    exact h rfl
open Classical in
/-- The decisive numbers while element i is looked at: k contexts have been compared. -/
noncomputable def ik (r : Rc) (es : List Dt) (i k : Nat) : List Int := if ∃ q, q < k ∧ tg r (del es i) q ≠ tg r es q then dec r es i ++ [(es.getD i default).n] else dec r es i
theorem ik_0 (r : Rc) (es : List Dt) (i : Nat) : ik r es i 0 = dec r es i := if_neg (fun ⟨q, h, _⟩ => Nat.not_lt_zero _ h)
theorem ik_end (r : Rc) (es : List Dt) (i : Nat) : ik r es i r.cs.length = dec r es (i + 1) := by
  unfold ik
  by_cases h : dif r es i
  · rw [dec_y h, if_pos (dif_iff.1 h)]
  · rw [dec_n h, if_neg (fun h2 => h (dif_iff.2 h2))]
theorem ik_n {r : Rc} {es : List Dt} {i k : Nat} (h : tg r (del es i) k = tg r es k) : ik r es i (k + 1) = ik r es i k := by
  have e : (∃ q, q < k + 1 ∧ tg r (del es i) q ≠ tg r es q) ↔ ∃ q, q < k ∧ tg r (del es i) q ≠ tg r es q := by
    constructor
    · rintro ⟨q, h1, h2⟩
      rcases Nat.lt_or_ge q k with h3 | h3
      · exact ⟨q, h3, h2⟩
      · obtain rfl : q = k := by omega
        exact absurd h h2
    · rintro ⟨q, h1, h2⟩; exact ⟨q, by omega, h2⟩
  unfold ik
  by_cases h3 : ∃ q, q < k ∧ tg r (del es i) q ≠ tg r es q
  · rw [if_pos h3, if_pos (e.2 h3)]
  · rw [if_neg h3, if_neg (fun h4 => h3 (e.1 h4))]
theorem ik_y {r : Rc} {es : List Dt} (hE : GoodE r es) {i k : Nat} (hi : i < es.length) (h : tg r (del es i) k ≠ tg r es k) : ik r es i (k + 1) = putI (ik r es i k) (es.getD i default).n := by
  have e : ik r es i (k + 1) = dec r es i ++ [(es.getD i default).n] := if_pos ⟨k, by omega, h⟩
  rw [e]
  unfold ik
  split
  · exact (putI_in (dec_lt hE i hi)).symm
  · exact (putI_app (dec_lt hE i hi)).symm
theorem ik_len (r : Rc) (es : List Dt) (i k : Nat) : (ik r es i k).length ≤ i + 1 := by
  have := dec_len r es i
  unfold ik
  split
  · simp; omega
  · omega
theorem hg_4 {x3 x2 x1 x0 rows : Ab.Rows} {q : Nat} (h : hg [(3, some x3), (2, some x2), (1, some x1), (0, some x0)] q = some rows) : (q = 3 ∧ rows = x3) ∨ (q = 2 ∧ rows = x2) ∨ (q = 1 ∧ rows = x1) ∨ (q = 0 ∧ rows = x0) := by
  simp only [Ab.hg, upd] at h
  repeat' split at h
  all_goals (first | (cases h; simp [*]; done) | cases h)
theorem iRowsP (ws : List Int) : ∀ row ∈ ws.map iRow, ∀ v ∈ row, AV.plain v = true := rowsP ws
theorem con9_no (a b nn : Bool) (r : Rc) (es : List Dt) (h1 : r.cs.length ≤ 1048576) (h2 : r.xs.length ≤ 1048576) (h3 : es.length ≤ 1048576) (h : ¬ prOK r es) : Con Try.prog 9 true [.agg (rRow a b r), .vw nn (es.map tRow)] (.tup [.sl 0 1 0 0, .bool false]) [([] : List Int).map iRow] := by
  refine con_of_wp mixed fun9 (by simp) [1] (plain_map iRow_plain []) ?_
  unfold ac9 ro9
  simp only [zipT]
  have c1 := con20_no a b nn r es h1 h2 h3 h
  repeat (first | refine wG_call1 c1 rfl rfl ?_ | (first
    | refine wC_a rfl ?_
    | refine q_s rfl ?_
    | refine q_b rfl ?_
    | refine wG_nil ?_
    | refine wG_g rfl ?_
    | refine wG_pure (o_len_vwm rfl) ?_
    | refine wG_pure (o_not_d rfl) ?_
    | refine wG_p rfl (by first | exact rfl | omega) ?_
    | refine wG_pure (o_str2 rfl rfl rfl) ?_
    | refine wG_pure (e_istr rfl rfl (by omega)) ?_
    | refine wG_pure (e_istr0 rfl rfl (by omega)) ?_
    | refine wG_pure (o_not rfl) ?_
    | refine wG_pure (e_ia_vw0 rfl rfl (by omega) rfl) ?_
    | refine wG_pure (e_ia_vwp rfl rfl (by omega) rfl) ?_
    | refine wG_pure (e_ia_vwm rfl rfl (by omega) (by omega) rfl) ?_
    | refine wG_pure (e_ia_vwi rfl rfl (by omega) rfl) ?_
    | refine wG_pure (e_ia_vwn rfl rfl (by omega) (by omega) rfl) ?_
    | refine wG_n rfl rfl ?_
    | refine wG_u rfl rfl ?_
    | refine wG_new (o_mks rfl rfl (by omega) (by decide)) ?_))
  exact ret_sb (.inr rfl) rfl ⟨_, retV_mv rfl, retV_mv rfl, rfl⟩ rfl
theorem con9_yes (a b nn : Bool) (r : Rc) (es : List Dt) (h1 : r.cs.length ≤ 1048576) (h2 : r.xs.length ≤ 1048576) (h3 : es.length ≤ 1048576) (h : prOK r es) : Con Try.prog 9 true [.agg (rRow a b r), .vw nn (es.map tRow)] (.tup [.sl 0 1 0 (dec r es es.length).length, .bool true]) [(dec r es es.length).map iRow] := by
  classical
  refine con_of_wp mixed fun9 (by simp) [1] (plain_map iRow_plain _) ?_
  unfold ac9 ro9
  simp only [zipT]
  have c1 := con20_yes a b nn r es h1 h2 (by omega) h
  have hE := h.1
  have e0 : ∀ n : Nat, 0 + ((n : Int)).toNat = n := fun n => by simp
  have hn := hE.1.1.1
  have hwf : ∀ ws : List Int, wfH [(2, some ((tgL r es r.cs.length).map vRow)), (1, some (ws.map iRow)), (0, some [rRow a b r])] 3 := fun ws => wfH_cons (by decide) (ltrV _ _) (wfH_cons (by decide) (ltrI _ _) (wfH_cons (by decide) (by simp [rRow, AV.ltr]) wfH_nil))
  have hwf4 : ∀ (us : List Iv) (ws : List Int), wfH [(3, some (us.map vRow)), (2, some ((tgL r es r.cs.length).map vRow)), (1, some (ws.map iRow)), (0, some [rRow a b r])] 4 := fun us ws => wfH_cons (by decide) (ltrV _ _) (wfH_cons (by decide) (ltrV _ _) (wfH_cons (by decide) (ltrI _ _) (wfH_cons (by decide) (by simp [rRow, AV.ltr]) wfH_nil)))
  repeat (first | refine wG_call1 c1 rfl rfl ?_ | (first
    | refine wC_a rfl ?_
    | refine q_s rfl ?_
    | refine q_b rfl ?_
    | refine wG_nil ?_
    | refine wG_g rfl ?_
    | refine wG_pure (o_len_vwm rfl) ?_
    | refine wG_pure (o_not_d rfl) ?_
    | refine wG_p rfl (by first | exact rfl | omega) ?_
    | refine wG_pure (o_str2 rfl rfl rfl) ?_
    | refine wG_pure (e_istr rfl rfl (by omega)) ?_
    | refine wG_pure (e_istr0 rfl rfl (by omega)) ?_
    | refine wG_pure (o_not rfl) ?_
    | refine wG_pure (e_ia_vw0 rfl rfl (by omega) rfl) ?_
    | refine wG_pure (e_ia_vwp rfl rfl (by omega) rfl) ?_
    | refine wG_pure (e_ia_vwm rfl rfl (by omega) (by omega) rfl) ?_
    | refine wG_pure (e_ia_vwi rfl rfl (by omega) rfl) ?_
    | refine wG_pure (e_ia_vwn rfl rfl (by omega) (by omega) rfl) ?_
    | refine wG_n rfl rfl ?_
    | refine wG_u rfl rfl ?_
    | refine wG_new (o_mks rfl rfl (by omega) (by decide)) ?_))
  refine wC_loopX Nat (fun i => ⟨[(1, .vw nn (es.map tRow)), (2, .pt 0 0 0), (6, .sl 1 1 0 (dec r es i).length), (7, .sl 2 2 0 r.cs.length), (9, .int .i64 (i : Int))], [(2, some ((tgL r es r.cs.length).map vRow)), (1, some ((dec r es i).map iRow)), (0, some [rRow a b r])], 3⟩) (fun i => i ≤ es.length) (fun i => es.length - i) 0 (Nat.zero_le _) ?_ ?_
  · exact .inl (Le_of ⟨⟨rfl, rfl⟩, ⟨rfl, rfl⟩, ⟨rfl, rfl⟩, ⟨rfl, rfl⟩, ⟨rfl, rfl⟩, trivial⟩ (fun q rows hq => hq) (hwf _))
  intro i hi
  repeat (first
    | refine wC_a rfl ?_
    | refine q_s rfl ?_
    | refine q_b rfl ?_
    | refine wG_nil ?_
    | refine wG_g rfl ?_
    | refine wG_pure (o_len_vwm rfl) ?_
    | refine wG_pure (o_not_d rfl) ?_
    | refine wG_p rfl (by first | exact rfl | omega) ?_
    | refine wG_pure (o_str2 rfl rfl rfl) ?_
    | refine wG_pure (e_istr rfl rfl (by omega)) ?_
    | refine wG_pure (e_istr0 rfl rfl (by omega)) ?_
    | refine wG_pure (o_not rfl) ?_
    | refine wG_pure (e_ia_vw0 rfl rfl (by omega) rfl) ?_
    | refine wG_pure (e_ia_vwp rfl rfl (by omega) rfl) ?_
    | refine wG_pure (e_ia_vwm rfl rfl (by omega) (by omega) rfl) ?_
    | refine wG_pure (e_ia_vwi rfl rfl (by omega) rfl) ?_
    | refine wG_pure (e_ia_vwn rfl rfl (by omega) (by omega) rfl) ?_
    | refine wG_n rfl rfl ?_
    | refine wG_u rfl rfl ?_
    | refine wG_new (o_mks rfl rfl (by omega) (by decide)) ?_)
  refine wC_cond_d rfl (fun h5 => ?_) (fun h5 => ?_)
  · have hi2 : i < es.length := by omega
    have hG' := del_good hE hi2
    have hdl := del_len hi2
    have cT := con31 a b true r (del es i) hG' (by omega)
    rw [decide_eq_true (tgOK_del hE h.2 hi2)] at cT
    repeat (first | refine wC_dregE ?_ | (first
    | refine wC_a rfl ?_
    | refine q_s rfl ?_
    | refine q_b rfl ?_
    | refine wG_nil ?_
    | refine wG_g rfl ?_
    | refine wG_pure (o_len_vwm rfl) ?_
    | refine wG_pure (o_not_d rfl) ?_
    | refine wG_p rfl (by first | exact rfl | omega) ?_
    | refine wG_pure (o_str2 rfl rfl rfl) ?_
    | refine wG_pure (e_istr rfl rfl (by omega)) ?_
    | refine wG_pure (e_istr0 rfl rfl (by omega)) ?_
    | refine wG_pure (o_not rfl) ?_
    | refine wG_pure (e_ia_vw0 rfl rfl (by omega) rfl) ?_
    | refine wG_pure (e_ia_vwp rfl rfl (by omega) rfl) ?_
    | refine wG_pure (e_ia_vwm rfl rfl (by omega) (by omega) rfl) ?_
    | refine wG_pure (e_ia_vwi rfl rfl (by omega) rfl) ?_
    | refine wG_pure (e_ia_vwn rfl rfl (by omega) (by omega) rfl) ?_
    | refine wG_n rfl rfl ?_
    | refine wG_u rfl rfl ?_
    | refine wG_new (o_mks rfl rfl (by omega) (by decide)) ?_) | (first
    | refine wE_nil (by kernel_rfl) ?_
    | refine wE_gy rfl ?_
    | refine wE_gn rfl rfl rfl ?_
    | refine wE_gu rfl rfl ?_
    | refine wE_gnn rfl rfl rfl ?_
    | refine wE_v (o_len_vwm rfl) rfl ?_
    | refine wE_v (o_not_d rfl) rfl ?_
    | refine wE_p rfl (by first | exact rfl | omega) rfl ?_
    | refine wE_v (o_str2 rfl rfl rfl) rfl ?_
    | refine wE_v (e_istr rfl rfl (by omega)) rfl ?_
    | refine wE_v (e_istr0 rfl rfl (by omega)) rfl ?_
    | refine wE_v (o_not rfl) rfl ?_
    | refine wE_v (e_ia_vw0 rfl rfl (by omega) rfl) rfl ?_
    | refine wE_v (e_ia_vwp rfl rfl (by omega) rfl) rfl ?_
    | refine wE_v (e_ia_vwm rfl rfl (by omega) (by omega) rfl) rfl ?_
    | refine wE_v (e_ia_vwi rfl rfl (by omega) rfl) rfl ?_
    | refine wE_v (e_ia_vwn rfl rfl (by omega) (by omega) rfl) rfl ?_
    | refine wE_n rfl rfl rfl ?_
    | refine wE_u rfl rfl rfl ?_
    | refine wE_new (o_mks rfl rfl (by omega) (by decide)) rfl ?_))
    refine wE_v (o_slc_m rfl bd_n (bd_i rfl) (by omega) (by omega) (okTt _)) rfl ?_
    refine wE_appX (new := ((es.drop 0).take (i - 0)).map tRow) rfl hg_here rfl (by decide) (rows_vw rfl (okTt _)) (by simp; omega) (by decide) rfl (fun q1 h1 n1 W1 hn1 hq1 hc1 hh1 hk1 => ?_)
    repeat (first
    | refine wE_nil (by kernel_rfl) ?_
    | refine wE_gy rfl ?_
    | refine wE_gn rfl rfl rfl ?_
    | refine wE_gu rfl rfl ?_
    | refine wE_gnn rfl rfl rfl ?_
    | refine wE_v (o_len_vwm rfl) rfl ?_
    | refine wE_v (o_not_d rfl) rfl ?_
    | refine wE_p rfl (by first | exact rfl | omega) rfl ?_
    | refine wE_v (o_str2 rfl rfl rfl) rfl ?_
    | refine wE_v (e_istr rfl rfl (by omega)) rfl ?_
    | refine wE_v (e_istr0 rfl rfl (by omega)) rfl ?_
    | refine wE_v (o_not rfl) rfl ?_
    | refine wE_v (e_ia_vw0 rfl rfl (by omega) rfl) rfl ?_
    | refine wE_v (e_ia_vwp rfl rfl (by omega) rfl) rfl ?_
    | refine wE_v (e_ia_vwm rfl rfl (by omega) (by omega) rfl) rfl ?_
    | refine wE_v (e_ia_vwi rfl rfl (by omega) rfl) rfl ?_
    | refine wE_v (e_ia_vwn rfl rfl (by omega) (by omega) rfl) rfl ?_
    | refine wE_n rfl rfl rfl ?_
    | refine wE_u rfl rfl rfl ?_
    | refine wE_new (o_mks rfl rfl (by omega) (by decide)) rfl ?_)
    refine wE_v (o_slc_m rfl (bd_s rfl) bd_n (by omega) (by omega) (okTt _)) rfl ?_
    refine wE_appX (new := ((es.drop (i + 1)).take (es.length - (i + 1))).map tRow) rfl hh1 (by simp) hq1 (rows_vw rfl (okTt _)) (by simp; omega) (by decide) rfl (fun q2 h2' n2 W2 hn2 hq2 hc2 hh2 hk2 => ?_)
    repeat (first | refine wE_nil (by simp [hokB, List.range, List.range.loop, djB]) ?_ | (first
    | refine wE_nil (by kernel_rfl) ?_
    | refine wE_gy rfl ?_
    | refine wE_gn rfl rfl rfl ?_
    | refine wE_gu rfl rfl ?_
    | refine wE_gnn rfl rfl rfl ?_
    | refine wE_v (o_len_vwm rfl) rfl ?_
    | refine wE_v (o_not_d rfl) rfl ?_
    | refine wE_p rfl (by first | exact rfl | omega) rfl ?_
    | refine wE_v (o_str2 rfl rfl rfl) rfl ?_
    | refine wE_v (e_istr rfl rfl (by omega)) rfl ?_
    | refine wE_v (e_istr0 rfl rfl (by omega)) rfl ?_
    | refine wE_v (o_not rfl) rfl ?_
    | refine wE_v (e_ia_vw0 rfl rfl (by omega) rfl) rfl ?_
    | refine wE_v (e_ia_vwp rfl rfl (by omega) rfl) rfl ?_
    | refine wE_v (e_ia_vwm rfl rfl (by omega) (by omega) rfl) rfl ?_
    | refine wE_v (e_ia_vwi rfl rfl (by omega) rfl) rfl ?_
    | refine wE_v (e_ia_vwn rfl rfl (by omega) (by omega) rfl) rfl ?_
    | refine wE_n rfl rfl rfl ?_
    | refine wE_u rfl rfl rfl ?_
    | refine wE_new (o_mks rfl rfl (by omega) (by decide)) rfl ?_))
    have hrec : hg h2' 0 = some [rRow a b r] := hk2 0 _ (by omega) (by omega) (hk1 0 _ (by omega) (by omega) (hg_skip (by decide) rfl))
    have hout : hg h2' 1 = some ((dec r es i).map iRow) := hk2 1 _ (by omega) (by omega) (hk1 1 _ (by omega) (by omega) (hg_skip (by decide) rfl))
    have htig : hg h2' 2 = some ((tgL r es r.cs.length).map vRow) := hk2 2 _ (by omega) (by omega) (hk1 2 _ (by omega) (by omega) (hg_skip (by decide) rfl))
    have hless : hg h2' q2 = some ((del es i).map tRow) := by
      rw [hh2, List.nil_append, ← List.map_append]
      congr 2
      rw [List.drop_zero, Nat.sub_zero, List.take_of_length_le (show (es.drop (i + 1)).length ≤ es.length - (i + 1) by simp)]
      rfl
    repeat (first | refine wG_pure (o_ldt_pt rfl hrec rfl rfl rfl) ?_ | refine wG_call1 (v' := .tup [.sl n2 2 0 r.cs.length, .bool true]) cT (ag_any rfl (ag_sl rfl hless (by simp [hdl]; omega) tRow_plain ag_nil)) rfl ?_ | (first
    | refine wC_a rfl ?_
    | refine q_s rfl ?_
    | refine q_b rfl ?_
    | refine wG_nil ?_
    | refine wG_g rfl ?_
    | refine wG_pure (o_len_vwm rfl) ?_
    | refine wG_pure (o_not_d rfl) ?_
    | refine wG_p rfl (by first | exact rfl | omega) ?_
    | refine wG_pure (o_str2 rfl rfl rfl) ?_
    | refine wG_pure (e_istr rfl rfl (by omega)) ?_
    | refine wG_pure (e_istr0 rfl rfl (by omega)) ?_
    | refine wG_pure (o_not rfl) ?_
    | refine wG_pure (e_ia_vw0 rfl rfl (by omega) rfl) ?_
    | refine wG_pure (e_ia_vwp rfl rfl (by omega) rfl) ?_
    | refine wG_pure (e_ia_vwm rfl rfl (by omega) (by omega) rfl) ?_
    | refine wG_pure (e_ia_vwi rfl rfl (by omega) rfl) ?_
    | refine wG_pure (e_ia_vwn rfl rfl (by omega) (by omega) rfl) ?_
    | refine wG_n rfl rfl ?_
    | refine wG_u rfl rfl ?_
    | refine wG_new (o_mks rfl rfl (by omega) (by decide)) ?_))
    refine wC_loopX Nat (fun k => ⟨[(1, .vw nn (es.map tRow)), (2, .pt 0 0 0), (6, .sl 1 1 0 (ik r es i k).length), (7, .sl 2 2 0 r.cs.length), (9, .int .i64 (i : Int)), (11, .sl 3 2 0 r.cs.length), (13, .int .i64 (k : Int))], [(3, some ((tgL r (del es i) r.cs.length).map vRow)), (2, some ((tgL r es r.cs.length).map vRow)), (1, some ((ik r es i k).map iRow)), (0, some [rRow a b r])], 4⟩) (fun k => k ≤ r.cs.length) (fun k => r.cs.length - k) 0 (Nat.zero_le _) ?_ ?_
    · refine .inr ⟨fun x => if x = 3 then n2 else x, LeR_of ⟨⟨rfl, rfl⟩, ⟨rfl, rfl⟩, ⟨by rw [ik_0]; rfl, rfl⟩, ⟨rfl, rfl⟩, ⟨rfl, rfl⟩, ⟨rfl, rfl⟩, ⟨rfl, rfl⟩, trivial⟩ (fun q rows hq => ?_) (hwf4 _ _) (fun q q' a1 a2 a3 => ?_)⟩
      · rw [ik_0] at hq
        have hm := hg_4 hq
        rcases hm with ⟨rfl, rfl⟩ | ⟨rfl, rfl⟩ | ⟨rfl, rfl⟩ | ⟨rfl, rfl⟩
        · rw [← rn_rows (vRowsD _)]
          exact hg_here
        · rw [← rn_rows (vRowsD _)]
          exact hg_skip (by simp; omega) htig
        · rw [← rn_rows (rowsP _)]
          exact hg_skip (by simp; omega) hout
        · exact hg_skip (by simp; omega) hrec
      · have b1 : q < 4 := a1
        have b2 : q' < 4 := a2
        split at a3 <;> split at a3 <;> omega
    intro k hk
    repeat (first
    | refine wC_a rfl ?_
    | refine q_s rfl ?_
    | refine q_b rfl ?_
    | refine wG_nil ?_
    | refine wG_g rfl ?_
    | refine wG_pure (o_len_vwm rfl) ?_
    | refine wG_pure (o_not_d rfl) ?_
    | refine wG_p rfl (by first | exact rfl | omega) ?_
    | refine wG_pure (o_str2 rfl rfl rfl) ?_
    | refine wG_pure (e_istr rfl rfl (by omega)) ?_
    | refine wG_pure (e_istr0 rfl rfl (by omega)) ?_
    | refine wG_pure (o_not rfl) ?_
    | refine wG_pure (e_ia_vw0 rfl rfl (by omega) rfl) ?_
    | refine wG_pure (e_ia_vwp rfl rfl (by omega) rfl) ?_
    | refine wG_pure (e_ia_vwm rfl rfl (by omega) (by omega) rfl) ?_
    | refine wG_pure (e_ia_vwi rfl rfl (by omega) rfl) ?_
    | refine wG_pure (e_ia_vwn rfl rfl (by omega) (by omega) rfl) ?_
    | refine wG_n rfl rfl ?_
    | refine wG_u rfl rfl ?_
    | refine wG_new (o_mks rfl rfl (by omega) (by decide)) ?_)
    refine wC_cond_d rfl (fun h6 => ?_) (fun h6 => ?_)
    · have hk2' : k < r.cs.length := by omega
      have hatD : ((tgL r (del es i) r.cs.length).map vRow)[k]? = some (vRow (tg r (del es i) k)) := by simp [tgL, List.getElem?_map, List.getElem?_range hk2']
      have hatT : ((tgL r es r.cs.length).map vRow)[k]? = some (vRow (tg r es k)) := by simp [tgL, List.getElem?_map, List.getElem?_range hk2']
      have hil := ik_len r es i k
      repeat (first | refine wC_dregE ?_ | (refine wE_v (e_ia_sl rfl rfl (by omega) (by omega)) rfl ?_; simp only [e0]) | refine wE_v (o_ldt_pt rfl rfl hatD rfl rfl) rfl ?_ | refine wE_v (o_ldt_pt rfl rfl hatT rfl rfl) rfl ?_ | refine wE_v (o_ne2 rfl rfl) rfl ?_ | (first
    | refine wC_a rfl ?_
    | refine q_s rfl ?_
    | refine q_b rfl ?_
    | refine wG_nil ?_
    | refine wG_g rfl ?_
    | refine wG_pure (o_len_vwm rfl) ?_
    | refine wG_pure (o_not_d rfl) ?_
    | refine wG_p rfl (by first | exact rfl | omega) ?_
    | refine wG_pure (o_str2 rfl rfl rfl) ?_
    | refine wG_pure (e_istr rfl rfl (by omega)) ?_
    | refine wG_pure (e_istr0 rfl rfl (by omega)) ?_
    | refine wG_pure (o_not rfl) ?_
    | refine wG_pure (e_ia_vw0 rfl rfl (by omega) rfl) ?_
    | refine wG_pure (e_ia_vwp rfl rfl (by omega) rfl) ?_
    | refine wG_pure (e_ia_vwm rfl rfl (by omega) (by omega) rfl) ?_
    | refine wG_pure (e_ia_vwi rfl rfl (by omega) rfl) ?_
    | refine wG_pure (e_ia_vwn rfl rfl (by omega) (by omega) rfl) ?_
    | refine wG_n rfl rfl ?_
    | refine wG_u rfl rfl ?_
    | refine wG_new (o_mks rfl rfl (by omega) (by decide)) ?_) | (first
    | refine wE_nil (by kernel_rfl) ?_
    | refine wE_gy rfl ?_
    | refine wE_gn rfl rfl rfl ?_
    | refine wE_gu rfl rfl ?_
    | refine wE_gnn rfl rfl rfl ?_
    | refine wE_v (o_len_vwm rfl) rfl ?_
    | refine wE_v (o_not_d rfl) rfl ?_
    | refine wE_p rfl (by first | exact rfl | omega) rfl ?_
    | refine wE_v (o_str2 rfl rfl rfl) rfl ?_
    | refine wE_v (e_istr rfl rfl (by omega)) rfl ?_
    | refine wE_v (e_istr0 rfl rfl (by omega)) rfl ?_
    | refine wE_v (o_not rfl) rfl ?_
    | refine wE_v (e_ia_vw0 rfl rfl (by omega) rfl) rfl ?_
    | refine wE_v (e_ia_vwp rfl rfl (by omega) rfl) rfl ?_
    | refine wE_v (e_ia_vwm rfl rfl (by omega) (by omega) rfl) rfl ?_
    | refine wE_v (e_ia_vwi rfl rfl (by omega) rfl) rfl ?_
    | refine wE_v (e_ia_vwn rfl rfl (by omega) (by omega) rfl) rfl ?_
    | refine wE_n rfl rfl rfl ?_
    | refine wE_u rfl rfl rfl ?_
    | refine wE_new (o_mks rfl rfl (by omega) (by decide)) rfl ?_))
      refine wC_cond_d rfl (fun h7 => ?_) (fun h7 => ?_)
      · have hne := iv_ne.1 h7
        have hup := ik_y hE hi2 hne
        obtain ⟨q, nr', g1, g2, g3, hsh⟩ := sh_putI (ik r es i k) (es.getD i default).n (by omega) (h := [(3, some ((tgL r (del es i) r.cs.length).map vRow)), (2, some ((tgL r es r.cs.length).map vRow)), (1, some ((ik r es i k).map iRow)), (0, some [rRow a b r])]) (nr := 4) (r := 1) rfl (hwf4 _ _)
        rw [← hup] at hsh
        repeat (first | refine wG_callS hsh rfl ?_ | (first
    | refine wC_a rfl ?_
    | refine q_s rfl ?_
    | refine q_b rfl ?_
    | refine wG_nil ?_
    | refine wG_g rfl ?_
    | refine wG_pure (o_len_vwm rfl) ?_
    | refine wG_pure (o_not_d rfl) ?_
    | refine wG_p rfl (by first | exact rfl | omega) ?_
    | refine wG_pure (o_str2 rfl rfl rfl) ?_
    | refine wG_pure (e_istr rfl rfl (by omega)) ?_
    | refine wG_pure (e_istr0 rfl rfl (by omega)) ?_
    | refine wG_pure (o_not rfl) ?_
    | refine wG_pure (e_ia_vw0 rfl rfl (by omega) rfl) ?_
    | refine wG_pure (e_ia_vwp rfl rfl (by omega) rfl) ?_
    | refine wG_pure (e_ia_vwm rfl rfl (by omega) (by omega) rfl) ?_
    | refine wG_pure (e_ia_vwi rfl rfl (by omega) rfl) ?_
    | refine wG_pure (e_ia_vwn rfl rfl (by omega) (by omega) rfl) ?_
    | refine wG_n rfl rfl ?_
    | refine wG_u rfl rfl ?_
    | refine wG_new (o_mks rfl rfl (by omega) (by decide)) ?_))
        refine ⟨k + 1, hk2', by omega, .inr ⟨fun x => if x = 1 then q else x, LeR_of ⟨⟨rfl, rfl⟩, ⟨rfl, rfl⟩, ⟨rfl, rfl⟩, ⟨rfl, rfl⟩, ⟨rfl, rfl⟩, ⟨rfl, rfl⟩, ⟨rfl, rfl⟩, trivial⟩ (fun x rows hq => ?_) (hwf4 _ _) (fun x x' a1 a2 a3 => ?_)⟩⟩
        · rcases hg_4 hq with ⟨rfl, rfl⟩ | ⟨rfl, rfl⟩ | ⟨rfl, rfl⟩ | ⟨rfl, rfl⟩
          · rw [← rn_rows (vRowsD _)]
            exact hg_skip (by simp; omega) rfl
          · rw [← rn_rows (vRowsD _)]
            exact hg_skip (by simp; omega) rfl
          · rw [← rn_rows (rowsP _)]
            exact hg_here
          · exact hg_skip (by simp; omega) rfl
        · have b1 : x < 4 := a1
          have b2 : x' < 4 := a2
          split at a3 <;> split at a3 <;> omega
      · have heq : tg r (del es i) k = tg r es k := Classical.byContradiction fun hne => h7 (iv_ne.2 hne)
        have hup := ik_n heq
        repeat (first
    | refine wC_a rfl ?_
    | refine q_s rfl ?_
    | refine q_b rfl ?_
    | refine wG_nil ?_
    | refine wG_g rfl ?_
    | refine wG_pure (o_len_vwm rfl) ?_
    | refine wG_pure (o_not_d rfl) ?_
    | refine wG_p rfl (by first | exact rfl | omega) ?_
    | refine wG_pure (o_str2 rfl rfl rfl) ?_
    | refine wG_pure (e_istr rfl rfl (by omega)) ?_
    | refine wG_pure (e_istr0 rfl rfl (by omega)) ?_
    | refine wG_pure (o_not rfl) ?_
    | refine wG_pure (e_ia_vw0 rfl rfl (by omega) rfl) ?_
    | refine wG_pure (e_ia_vwp rfl rfl (by omega) rfl) ?_
    | refine wG_pure (e_ia_vwm rfl rfl (by omega) (by omega) rfl) ?_
    | refine wG_pure (e_ia_vwi rfl rfl (by omega) rfl) ?_
    | refine wG_pure (e_ia_vwn rfl rfl (by omega) (by omega) rfl) ?_
    | refine wG_n rfl rfl ?_
    | refine wG_u rfl rfl ?_
    | refine wG_new (o_mks rfl rfl (by omega) (by decide)) ?_)
        refine ⟨k + 1, hk2', by omega, .inl (Le_of ⟨⟨rfl, rfl⟩, ⟨rfl, rfl⟩, ⟨by rw [hup]; rfl, rfl⟩, ⟨rfl, rfl⟩, ⟨rfl, rfl⟩, ⟨rfl, rfl⟩, ⟨rfl, rfl⟩, trivial⟩ (fun x rows hq => by rw [hup] at hq; exact hq) (hwf4 _ _))⟩
    · have hk3 : k = r.cs.length := by omega
      subst hk3
      have hend := ik_end r es i
      repeat (first
    | refine wC_a rfl ?_
    | refine q_s rfl ?_
    | refine q_b rfl ?_
    | refine wG_nil ?_
    | refine wG_g rfl ?_
    | refine wG_pure (o_len_vwm rfl) ?_
    | refine wG_pure (o_not_d rfl) ?_
    | refine wG_p rfl (by first | exact rfl | omega) ?_
    | refine wG_pure (o_str2 rfl rfl rfl) ?_
    | refine wG_pure (e_istr rfl rfl (by omega)) ?_
    | refine wG_pure (e_istr0 rfl rfl (by omega)) ?_
    | refine wG_pure (o_not rfl) ?_
    | refine wG_pure (e_ia_vw0 rfl rfl (by omega) rfl) ?_
    | refine wG_pure (e_ia_vwp rfl rfl (by omega) rfl) ?_
    | refine wG_pure (e_ia_vwm rfl rfl (by omega) (by omega) rfl) ?_
    | refine wG_pure (e_ia_vwi rfl rfl (by omega) rfl) ?_
    | refine wG_pure (e_ia_vwn rfl rfl (by omega) (by omega) rfl) ?_
    | refine wG_n rfl rfl ?_
    | refine wG_u rfl rfl ?_
    | refine wG_new (o_mks rfl rfl (by omega) (by decide)) ?_)
      refine ⟨i + 1, hi2, by omega, .inl (Le_of ⟨⟨rfl, rfl⟩, ⟨rfl, rfl⟩, ⟨by rw [← hend]; rfl, rfl⟩, ⟨rfl, rfl⟩, ⟨rfl, rfl⟩, trivial⟩ (fun x rows hq => ?_) (hwf _))⟩
      rw [← hend] at hq
      have hx : x < 3 := ((hwf _) x rows hq).1
      exact hg_skip (by omega) hq
  · have hi3 : i = es.length := by omega
    subst hi3
    repeat (first
    | refine wC_a rfl ?_
    | refine q_s rfl ?_
    | refine q_b rfl ?_
    | refine wG_nil ?_
    | refine wG_g rfl ?_
    | refine wG_pure (o_len_vwm rfl) ?_
    | refine wG_pure (o_not_d rfl) ?_
    | refine wG_p rfl (by first | exact rfl | omega) ?_
    | refine wG_pure (o_str2 rfl rfl rfl) ?_
    | refine wG_pure (e_istr rfl rfl (by omega)) ?_
    | refine wG_pure (e_istr0 rfl rfl (by omega)) ?_
    | refine wG_pure (o_not rfl) ?_
    | refine wG_pure (e_ia_vw0 rfl rfl (by omega) rfl) ?_
    | refine wG_pure (e_ia_vwp rfl rfl (by omega) rfl) ?_
    | refine wG_pure (e_ia_vwm rfl rfl (by omega) (by omega) rfl) ?_
    | refine wG_pure (e_ia_vwi rfl rfl (by omega) rfl) ?_
    | refine wG_pure (e_ia_vwn rfl rfl (by omega) (by omega) rfl) ?_
    | refine wG_n rfl rfl ?_
    | refine wG_u rfl rfl ?_
    | refine wG_new (o_mks rfl rfl (by omega) (by decide)) ?_)
    exact ret_sb (.inr rfl) rfl ⟨_, retV_mv rfl, retV_mv rfl, rfl⟩ rfl
end Go.Proofs.Ytencmeleapmjnaa.Rec
