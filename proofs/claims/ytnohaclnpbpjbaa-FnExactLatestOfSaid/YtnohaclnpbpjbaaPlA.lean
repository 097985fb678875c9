/- Lists of distributions as the laws hand them over: shapes, sizes, copies, comparison, marks. -/
import Derived.Test.YtnohaclnpbpjbaaNstA
import Derived.Test.YtnohaclnpbpjbaaDwaA
namespace Go.Proofs.Ytnohaclnpbpjbaa.Dst
open Go Go.Proofs.Ytnohaclnpbpjbaa.Ab Go.Proofs.Ytnohaclnpbpjbaa.Il
attribute [local irreducible] wpO wpC wpDr wpQ wpG wpE stepA seqQ blkQ Ret RetG ev
set_option maxRecDepth 10000
set_option maxHeartbeats 8000000
set_option linter.unusedSimpArgs false
set_option linter.unusedVariables false

def ac16 : AC := (.seq (.reg [⟨(some 4), none, (.mv (.c (.int .i64 0)))⟩]) (.seq (.reg [⟨(some 6), none, (.mv (.t 1))⟩, ⟨(some 7), none, (.mv (.t 0))⟩, ⟨(some 8), none, (.len (.t 7))⟩, ⟨(some 9), none, (.bin .sub (.t 6) (.t 8))⟩, ⟨(some 1), none, (.mv (.t 9))⟩]) (.seq (.seq (.reg [⟨(some 10), none, (.mv (.t 1))⟩, ⟨(some 11), none, (.bin .lss (.t 10) (.c (.int .i64 0)))⟩]) (.cond (.t 11) (.seq (.reg [⟨(some 4), none, (.mv (.c (.int .i64 (-1))))⟩]) .ret) .skip)) (.seq (.seq (.reg [⟨(some 5), none, (.mv (.c (.int .i64 0)))⟩]) (.blk 0 (.loop (.seq (.seq (.reg [⟨(some 12), none, (.mv (.t 5))⟩, ⟨(some 13), none, (.mv (.t 0))⟩, ⟨(some 14), none, (.len (.t 13))⟩, ⟨(some 15), none, (.bin .lss (.t 12) (.t 14))⟩]) (.cond (.t 15) .skip (.exit 0))) (.seq (.blk 1 (.seq (.reg [⟨(some 18), none, (.mv (.t 0))⟩, ⟨(some 19), none, (.mv (.t 5))⟩, ⟨(some 20), none, (.ia 2 (.t 18) (.t 19))⟩, ⟨(some 21), none, (.ld true 2 (.t 20))⟩, ⟨(some 22), none, (.mv (.t 1))⟩, ⟨(some 23), none, (.call 46 [(.t 21), (.t 22)])⟩, ⟨(some 1), none, (.mv (.t 23))⟩]) (.seq (.reg [⟨(some 24), none, (.mv (.t 1))⟩, ⟨(some 25), none, (.bin .lss (.t 24) (.c (.int .i64 0)))⟩]) (.cond (.t 25) (.seq (.reg [⟨(some 4), none, (.mv (.c (.int .i64 (-1))))⟩]) .ret) .skip)))) (.reg [⟨(some 16), none, (.mv (.t 5))⟩, ⟨(some 17), none, (.bin .add (.t 16) (.c (.int .i64 1)))⟩, ⟨(some 5), none, (.mv (.t 17))⟩])))))) (.seq (.reg [⟨(some 26), none, (.mv (.t 1))⟩, ⟨(some 4), none, (.mv (.t 26))⟩]) .ret)))))
def ro16 : List AOp := [(.mv (.t 4))]
theorem fun16 : Fun Try.prog 16 27 ac16 ro16 := ⟨Try.f16, _, Try.func16, by kernel_rfl, rfl, rfl, by kernel_rfl, by kernel_rfl, by decide⟩
def ac18 : AC := (.seq (.reg [⟨(some 2), none, (.mv (.c .nilS))⟩]) (.seq (.reg [⟨(some 5), none, (.mv (.t 0))⟩, ⟨(some 6), none, (.len (.t 5))⟩, ⟨(some 7), none, (.mks 2 32 [(.int .i64 0), .nilS] (.t 6) (.t 6))⟩, ⟨(some 3), none, (.mv (.t 7))⟩]) (.seq (.seq (.reg [⟨(some 4), none, (.mv (.c (.int .i64 0)))⟩]) (.blk 0 (.loop (.seq (.seq (.reg [⟨(some 8), none, (.mv (.t 4))⟩, ⟨(some 9), none, (.mv (.t 0))⟩, ⟨(some 10), none, (.len (.t 9))⟩, ⟨(some 11), none, (.bin .lss (.t 8) (.t 10))⟩]) (.cond (.t 11) .skip (.exit 0))) (.seq (.blk 1 (.reg [⟨(some 14), none, (.mv (.t 3))⟩, ⟨(some 15), none, (.mv (.t 4))⟩, ⟨(some 16), none, (.mv (.t 0))⟩, ⟨(some 17), none, (.mv (.t 4))⟩, ⟨(some 18), none, (.ia 2 (.t 16) (.t 17))⟩, ⟨(some 19), none, (.ld true 2 (.t 18))⟩, ⟨(some 20), none, (.call 54 [(.t 19)])⟩, ⟨(some 21), none, (.ia 2 (.t 14) (.t 15))⟩, ⟨none, none, (.st 2 (.t 21) (.t 20))⟩])) (.reg [⟨(some 12), none, (.mv (.t 4))⟩, ⟨(some 13), none, (.bin .add (.t 12) (.c (.int .i64 1)))⟩, ⟨(some 4), none, (.mv (.t 13))⟩])))))) (.seq (.reg [⟨(some 22), none, (.mv (.t 3))⟩, ⟨(some 2), none, (.mv (.t 22))⟩]) .ret))))
def ro18 : List AOp := [(.mv (.t 2))]
theorem fun18 : Fun Try.prog 18 23 ac18 ro18 := ⟨Try.f18, _, Try.func18, by kernel_rfl, rfl, rfl, by kernel_rfl, by kernel_rfl, by decide⟩
def ac21 : AC := (.seq (.reg [⟨(some 4), none, (.mv (.c (.bool false)))⟩]) (.seq (.seq (.reg [⟨(some 6), none, (.mv (.t 0))⟩, ⟨(some 7), none, (.len (.t 6))⟩, ⟨(some 8), none, (.mv (.t 1))⟩, ⟨(some 9), none, (.len (.t 8))⟩, ⟨(some 10), none, (.bin .neq (.t 7) (.t 9))⟩]) (.cond (.t 10) (.seq (.reg [⟨(some 4), none, (.mv (.c (.bool false)))⟩]) .ret) .skip)) (.seq (.seq (.reg [⟨(some 5), none, (.mv (.c (.int .i64 0)))⟩]) (.blk 0 (.loop (.seq (.seq (.reg [⟨(some 11), none, (.mv (.t 5))⟩, ⟨(some 12), none, (.mv (.t 0))⟩, ⟨(some 13), none, (.len (.t 12))⟩, ⟨(some 14), none, (.bin .lss (.t 11) (.t 13))⟩]) (.cond (.t 14) .skip (.exit 0))) (.seq (.blk 1 (.seq (.dreg [⟨(some 17), none, (.mv (.t 0))⟩, ⟨(some 18), none, (.mv (.t 5))⟩, ⟨(some 19), none, (.ia 2 (.t 17) (.t 18))⟩, ⟨(some 20), none, (.ld true 2 (.t 19))⟩, ⟨(some 21), none, (.mv (.t 1))⟩, ⟨(some 22), none, (.mv (.t 5))⟩, ⟨(some 23), none, (.ia 2 (.t 21) (.t 22))⟩, ⟨(some 24), none, (.ld true 2 (.t 23))⟩, ⟨(some 25), none, (.call 20 [(.t 20), (.t 24)])⟩, ⟨(some 26), none, (.un .not (.t 25))⟩] [[], [], [0, 1], [0, 1, 2], [], [], [4, 5], [4, 5, 6], [0, 1, 2, 3, 4, 5, 6, 7], [0, 1, 2, 3, 4, 5, 6, 7, 8]]) (.cond (.t 26) (.seq (.reg [⟨(some 4), none, (.mv (.c (.bool false)))⟩]) .ret) .skip))) (.reg [⟨(some 15), none, (.mv (.t 5))⟩, ⟨(some 16), none, (.bin .add (.t 15) (.c (.int .i64 1)))⟩, ⟨(some 5), none, (.mv (.t 16))⟩])))))) (.seq (.reg [⟨(some 4), none, (.mv (.c (.bool true)))⟩]) .ret))))
def ro21 : List AOp := [(.mv (.t 4))]
theorem fun21 : Fun Try.prog 21 27 ac21 ro21 := ⟨Try.f21, _, Try.func21, by kernel_rfl, rfl, rfl, by kernel_rfl, by kernel_rfl, by decide⟩
def ac22 : AC := (.seq (.reg [⟨(some 4), none, (.mv (.c (.int .i64 0)))⟩]) (.seq (.seq (.reg [⟨(some 5), none, (.mv (.c (.int .i64 0)))⟩]) (.blk 0 (.loop (.seq (.seq (.reg [⟨(some 6), none, (.mv (.t 5))⟩, ⟨(some 7), none, (.mv (.t 0))⟩, ⟨(some 8), none, (.len (.t 7))⟩, ⟨(some 9), none, (.bin .lss (.t 6) (.t 8))⟩]) (.cond (.t 9) .skip (.exit 0))) (.seq (.blk 1 (.seq (.reg [⟨(some 12), none, (.mv (.t 0))⟩, ⟨(some 13), none, (.mv (.t 5))⟩, ⟨(some 14), none, (.mv (.t 1))⟩, ⟨(some 15), none, (.ia 2 (.t 12) (.t 13))⟩, ⟨(some 16), none, (.fa 0 (.t 15))⟩, ⟨none, none, (.st 1 (.t 16) (.t 14))⟩]) (.seq (.reg [⟨(some 17), none, (.mv (.t 1))⟩, ⟨(some 18), none, (.bin .add (.t 17) (.c (.int .i64 1)))⟩, ⟨(some 1), none, (.mv (.t 18))⟩]) (.reg [⟨(some 19), none, (.mv (.t 0))⟩, ⟨(some 20), none, (.mv (.t 5))⟩, ⟨(some 21), none, (.ia 2 (.t 19) (.t 20))⟩, ⟨(some 22), none, (.fa 1 (.t 21))⟩, ⟨(some 23), none, (.ld false 1 (.t 22))⟩, ⟨(some 24), none, (.mv (.t 1))⟩, ⟨(some 25), none, (.call 58 [(.t 23), (.t 24)])⟩, ⟨(some 1), none, (.mv (.t 25))⟩])))) (.reg [⟨(some 10), none, (.mv (.t 5))⟩, ⟨(some 11), none, (.bin .add (.t 10) (.c (.int .i64 1)))⟩, ⟨(some 5), none, (.mv (.t 11))⟩])))))) (.seq (.reg [⟨(some 26), none, (.mv (.t 1))⟩, ⟨(some 4), none, (.mv (.t 26))⟩]) .ret)))
def ro22 : List AOp := [(.mv (.t 4))]
theorem fun22 : Fun Try.prog 22 27 ac22 ro22 := ⟨Try.f22, _, Try.func22, by kernel_rfl, rfl, rfl, by kernel_rfl, by kernel_rfl, by decide⟩

instance : Inhabited Ds := ⟨⟨0, []⟩⟩
structure Dn where
  b : Bool
  d : Ds
instance : Inhabited Dn := ⟨⟨false, default⟩⟩
def hD : Hol Dn where
  g := fun x v => [.int .i64 x.d.f, v]
  w := fun x => x.d.ws
  sh := fun n x v => rfl
  rn := fun π x v => rfl
  dr := fun H m x v => rfl
  mem := fun x v y hy => by
    simp only [List.mem_cons, List.not_mem_nil, or_false] at hy
    rcases hy with rfl | rfl
    · exact .inl rfl
    · exact .inr rfl
/-- An element of a list of distributions, by content. -/
def nD (x : Dn) : List AV := dRow x.b x.d
theorem cR_nD (xs : List Dn) : xs.map (cR hD true) = (xs.map fun x => Dn.mk true x.d).map nD := by rw [List.map_map]; rfl
def tD (xs : List Dn) : List Dn := xs.map fun x => ⟨true, x.d⟩
theorem tD_len (xs : List Dn) : (tD xs).length = xs.length := by simp [tD]
theorem tD_d (xs : List Dn) (i : Nat) : ((tD xs).getD i default).d = (xs.getD i default).d := by
  by_cases h : i < xs.length
  · simp [tD, List.getD_eq_getElem?_getD, List.getElem?_map, List.getElem?_eq_getElem h]
  · simp [tD, List.getD_eq_getElem?_getD, List.getElem?_map, List.getElem?_eq_none (by omega : xs.length ≤ i)]
theorem tD_tD (xs : List Dn) : tD (tD xs) = tD xs := by simp [tD]
theorem nD_get {xs : List Dn} {i : Nat} (h : i < xs.length) : (xs.map nD)[i]? = some (nD (xs.getD i default)) := by
  simp [List.getElem?_map, List.getElem?_eq_getElem h, List.getD_eq_getElem?_getD]
def LenN (xs : List Dn) (B : Nat) : Prop := ∀ i, i < xs.length → (xs.getD i default).d.ws.length ≤ B
theorem LenN.t {xs : List Dn} {B : Nat} (h : LenN xs B) : LenN (tD xs) B := fun i hi => by rw [tD_d]; exact h i (by rwa [tD_len] at hi)

/-! ### The size -/
def szN (xs : List Dn) (l : Int) : Nat → Int
  | 0 => l
  | i + 1 => szN xs l i - ((xs.getD i default).d.ws.length : Int)
theorem szN_le (xs : List Dn) (l : Int) : ∀ i, szN xs l i ≤ l
  | 0 => Int.le_refl _
  | i + 1 => by
    have := szN_le xs l i
    rw [szN]; omega
theorem szN_mono (xs : List Dn) (l : Int) (i : Nat) : ∀ d, szN xs l (i + d) ≤ szN xs l i
  | 0 => Int.le_refl _
  | d + 1 => by
    have := szN_mono xs l i d
    show szN xs l (i + d) - _ ≤ _
    omega
theorem szN_len {xs : List Dn} {l : Int} {n : Nat} (h : 0 ≤ szN xs l n) {i : Nat} (hi : i < n) : ((xs.getD i default).d.ws.length : Int) ≤ l := by
  have h1 := szN_mono xs l (i + 1) (n - (i + 1))
  rw [show i + 1 + (n - (i + 1)) = n by omega] at h1
  have h2 := szN_le xs l i
  rw [szN] at h1
  omega
def szD (l : Int) (xs : List Dn) : Int := if l - xs.length < 0 then -1 else if szN xs (l - xs.length) xs.length < 0 then -1 else szN xs (l - xs.length) xs.length
theorem szD_ok {xs : List Dn} {l : Int} (h : 0 ≤ szD l xs) : (xs.length : Int) ≤ l ∧ (∀ i, i < xs.length → ((xs.getD i default).d.ws.length : Int) ≤ l) ∧ szD l xs ≤ l := by
  unfold szD at h ⊢
  by_cases h1 : l - (xs.length : Int) < 0
  · rw [if_pos h1] at h; omega
  · rw [if_neg h1] at h ⊢
    by_cases h2 : szN xs (l - xs.length) xs.length < 0
    · rw [if_pos h2] at h; omega
    · rw [if_neg h2] at h ⊢
      have h3 := szN_le xs (l - xs.length) xs.length
      exact ⟨by omega, fun i hi => by have := szN_len h hi; omega, by omega⟩

theorem con16 (nn : Bool) (xs : List Dn) (hlen : xs.length ≤ 9223372036854775807) (hL : LenN xs 9223372036854775807) (l : Int) (h0 : 0 ≤ l) (h1 : l ≤ 1048576) : Con Try.prog 16 true [.vw nn (xs.map nD), .int .i64 l] (.int .i64 (szD l xs)) [] := by
  refine con_of_wp mixed fun16 (by simp) [] plain_nil ?_
  unfold ac16 ro16 szD
  simp only [zipT]
  repeat (first
    | refine wC_a rfl ?_
    | refine q_s rfl ?_
    | refine q_b rfl ?_
    | refine wG_nil ?_
    | refine wG_g rfl ?_
    | refine wG_pure (o_len_vwm rfl) ?_
    | refine wG_pure (o_not_d rfl) ?_
    | refine wG_p rfl (by first | exact rfl | omega) ?_
    | refine wG_pure (o_str2 rfl rfl rfl) ?_
    | refine wG_pure (e_istr rfl rfl (by omega)) ?_
    | refine wG_pure (e_istr0 rfl rfl (by omega)) ?_
    | refine wG_pure (o_not rfl) ?_
    | refine wG_pure (e_ia_vw0 rfl rfl (by omega) rfl) ?_
    | refine wG_pure (e_ia_vwp rfl rfl (by omega) rfl) ?_
    | refine wG_pure (e_ia_vwm rfl rfl (by omega) (by omega) rfl) ?_
    | refine wG_pure (e_ia_vwi rfl rfl (by omega) rfl) ?_
    | refine wG_pure (e_ia_vwn rfl rfl (by omega) (by omega) rfl) ?_
    | refine wG_n rfl rfl ?_
    | refine wG_u rfl rfl ?_
    | refine wG_new (o_mks rfl rfl (by omega) (by decide)) ?_)
  refine wC_cond_d rfl (fun h => ?_) (fun h => ?_)
  · rw [if_pos h]
    repeat (first
    | refine wC_a rfl ?_
    | refine q_s rfl ?_
    | refine q_b rfl ?_
    | refine wG_nil ?_
    | refine wG_g rfl ?_
    | refine wG_pure (o_len_vwm rfl) ?_
    | refine wG_pure (o_not_d rfl) ?_
    | refine wG_p rfl (by first | exact rfl | omega) ?_
    | refine wG_pure (o_str2 rfl rfl rfl) ?_
    | refine wG_pure (e_istr rfl rfl (by omega)) ?_
    | refine wG_pure (e_istr0 rfl rfl (by omega)) ?_
    | refine wG_pure (o_not rfl) ?_
    | refine wG_pure (e_ia_vw0 rfl rfl (by omega) rfl) ?_
    | refine wG_pure (e_ia_vwp rfl rfl (by omega) rfl) ?_
    | refine wG_pure (e_ia_vwm rfl rfl (by omega) (by omega) rfl) ?_
    | refine wG_pure (e_ia_vwi rfl rfl (by omega) rfl) ?_
    | refine wG_pure (e_ia_vwn rfl rfl (by omega) (by omega) rfl) ?_
    | refine wG_n rfl rfl ?_
    | refine wG_u rfl rfl ?_
    | refine wG_new (o_mks rfl rfl (by omega) (by decide)) ?_)
    exact ret_intE (.inr rfl) ⟨_, retV_mv rfl, rfl⟩
  rw [if_neg h]
  repeat (first
    | refine wC_a rfl ?_
    | refine q_s rfl ?_
    | refine q_b rfl ?_
    | refine wG_nil ?_
    | refine wG_g rfl ?_
    | refine wG_pure (o_len_vwm rfl) ?_
    | refine wG_pure (o_not_d rfl) ?_
    | refine wG_p rfl (by first | exact rfl | omega) ?_
    | refine wG_pure (o_str2 rfl rfl rfl) ?_
    | refine wG_pure (e_istr rfl rfl (by omega)) ?_
    | refine wG_pure (e_istr0 rfl rfl (by omega)) ?_
    | refine wG_pure (o_not rfl) ?_
    | refine wG_pure (e_ia_vw0 rfl rfl (by omega) rfl) ?_
    | refine wG_pure (e_ia_vwp rfl rfl (by omega) rfl) ?_
    | refine wG_pure (e_ia_vwm rfl rfl (by omega) (by omega) rfl) ?_
    | refine wG_pure (e_ia_vwi rfl rfl (by omega) rfl) ?_
    | refine wG_pure (e_ia_vwn rfl rfl (by omega) (by omega) rfl) ?_
    | refine wG_n rfl rfl ?_
    | refine wG_u rfl rfl ?_
    | refine wG_new (o_mks rfl rfl (by omega) (by decide)) ?_)
  refine wC_loop Nat (fun i => ⟨[(0, .vw nn (xs.map nD)), (1, .int .i64 (szN xs (l - xs.length) i)), (5, .int .i64 (i : Int))], [], 0⟩) (fun i => i ≤ xs.length ∧ 0 ≤ szN xs (l - xs.length) i) (fun i => xs.length - i) 0 ⟨Nat.zero_le _, Int.not_lt.1 h⟩ ?_ (fun _ _ => Nat.zero_le _) ?_
  · exact ⟨⟨⟨rfl, rfl⟩, ⟨rfl, rfl⟩, ⟨rfl, rfl⟩, trivial⟩, trivial⟩
  rintro i ⟨hi, hz⟩
  have hle := szN_le xs (l - xs.length) i
  repeat (first
    | refine wC_a rfl ?_
    | refine q_s rfl ?_
    | refine q_b rfl ?_
    | refine wG_nil ?_
    | refine wG_g rfl ?_
    | refine wG_pure (o_len_vwm rfl) ?_
    | refine wG_pure (o_not_d rfl) ?_
    | refine wG_p rfl (by first | exact rfl | omega) ?_
    | refine wG_pure (o_str2 rfl rfl rfl) ?_
    | refine wG_pure (e_istr rfl rfl (by omega)) ?_
    | refine wG_pure (e_istr0 rfl rfl (by omega)) ?_
    | refine wG_pure (o_not rfl) ?_
    | refine wG_pure (e_ia_vw0 rfl rfl (by omega) rfl) ?_
    | refine wG_pure (e_ia_vwp rfl rfl (by omega) rfl) ?_
    | refine wG_pure (e_ia_vwm rfl rfl (by omega) (by omega) rfl) ?_
    | refine wG_pure (e_ia_vwi rfl rfl (by omega) rfl) ?_
    | refine wG_pure (e_ia_vwn rfl rfl (by omega) (by omega) rfl) ?_
    | refine wG_n rfl rfl ?_
    | refine wG_u rfl rfl ?_
    | refine wG_new (o_mks rfl rfl (by omega) (by decide)) ?_)
  refine wC_cond_d rfl (fun h2 => ?_) (fun h2 => ?_)
  · have hi2 : i < xs.length := by omega
    have c := con46 (xs.getD i default).b (xs.getD i default).d (hL i hi2) (szN xs (l - xs.length) i) hz (by omega)
    have hup : szN xs (l - xs.length) (i + 1) = szN xs (l - xs.length) i - ((xs.getD i default).d.ws.length : Int) := rfl
    by_cases hc : ((xs.getD i default).d.ws.length : Int) ≤ szN xs (l - xs.length) i
    · rw [if_pos hc] at c
      repeat (first | refine wG_call c rfl rfl ?_ | (first
    | refine wC_a rfl ?_
    | refine q_s rfl ?_
    | refine q_b rfl ?_
    | refine wG_nil ?_
    | refine wG_g rfl ?_
    | refine wG_pure (o_len_vwm rfl) ?_
    | refine wG_pure (o_not_d rfl) ?_
    | refine wG_p rfl (by first | exact rfl | omega) ?_
    | refine wG_pure (o_str2 rfl rfl rfl) ?_
    | refine wG_pure (e_istr rfl rfl (by omega)) ?_
    | refine wG_pure (e_istr0 rfl rfl (by omega)) ?_
    | refine wG_pure (o_not rfl) ?_
    | refine wG_pure (e_ia_vw0 rfl rfl (by omega) rfl) ?_
    | refine wG_pure (e_ia_vwp rfl rfl (by omega) rfl) ?_
    | refine wG_pure (e_ia_vwm rfl rfl (by omega) (by omega) rfl) ?_
    | refine wG_pure (e_ia_vwi rfl rfl (by omega) rfl) ?_
    | refine wG_pure (e_ia_vwn rfl rfl (by omega) (by omega) rfl) ?_
    | refine wG_n rfl rfl ?_
    | refine wG_u rfl rfl ?_
    | refine wG_new (o_mks rfl rfl (by omega) (by decide)) ?_))
      refine wC_cond_d rfl (fun h3 => ?_) (fun h3 => ?_)
      · omega
      repeat (first
    | refine wC_a rfl ?_
    | refine q_s rfl ?_
    | refine q_b rfl ?_
    | refine wG_nil ?_
    | refine wG_g rfl ?_
    | refine wG_pure (o_len_vwm rfl) ?_
    | refine wG_pure (o_not_d rfl) ?_
    | refine wG_p rfl (by first | exact rfl | omega) ?_
    | refine wG_pure (o_str2 rfl rfl rfl) ?_
    | refine wG_pure (e_istr rfl rfl (by omega)) ?_
    | refine wG_pure (e_istr0 rfl rfl (by omega)) ?_
    | refine wG_pure (o_not rfl) ?_
    | refine wG_pure (e_ia_vw0 rfl rfl (by omega) rfl) ?_
    | refine wG_pure (e_ia_vwp rfl rfl (by omega) rfl) ?_
    | refine wG_pure (e_ia_vwm rfl rfl (by omega) (by omega) rfl) ?_
    | refine wG_pure (e_ia_vwi rfl rfl (by omega) rfl) ?_
    | refine wG_pure (e_ia_vwn rfl rfl (by omega) (by omega) rfl) ?_
    | refine wG_n rfl rfl ?_
    | refine wG_u rfl rfl ?_
    | refine wG_new (o_mks rfl rfl (by omega) (by decide)) ?_)
      exact ⟨i + 1, ⟨hi2, by omega⟩, by omega, ⟨⟨rfl, rfl⟩, ⟨rfl, rfl⟩, ⟨rfl, rfl⟩, trivial⟩, trivial⟩
    · rw [if_neg hc] at c
      have hneg : szN xs (l - xs.length) xs.length < 0 := by
        have := szN_mono xs (l - xs.length) (i + 1) (xs.length - (i + 1))
        rw [show i + 1 + (xs.length - (i + 1)) = xs.length by omega] at this
        omega
      rw [if_pos hneg]
      repeat (first | refine wG_call c rfl rfl ?_ | (first
    | refine wC_a rfl ?_
    | refine q_s rfl ?_
    | refine q_b rfl ?_
    | refine wG_nil ?_
    | refine wG_g rfl ?_
    | refine wG_pure (o_len_vwm rfl) ?_
    | refine wG_pure (o_not_d rfl) ?_
    | refine wG_p rfl (by first | exact rfl | omega) ?_
    | refine wG_pure (o_str2 rfl rfl rfl) ?_
    | refine wG_pure (e_istr rfl rfl (by omega)) ?_
    | refine wG_pure (e_istr0 rfl rfl (by omega)) ?_
    | refine wG_pure (o_not rfl) ?_
    | refine wG_pure (e_ia_vw0 rfl rfl (by omega) rfl) ?_
    | refine wG_pure (e_ia_vwp rfl rfl (by omega) rfl) ?_
    | refine wG_pure (e_ia_vwm rfl rfl (by omega) (by omega) rfl) ?_
    | refine wG_pure (e_ia_vwi rfl rfl (by omega) rfl) ?_
    | refine wG_pure (e_ia_vwn rfl rfl (by omega) (by omega) rfl) ?_
    | refine wG_n rfl rfl ?_
    | refine wG_u rfl rfl ?_
    | refine wG_new (o_mks rfl rfl (by omega) (by decide)) ?_))
      exact ret_intE (.inr rfl) ⟨_, retV_mv rfl, rfl⟩
  · have hi3 : i = xs.length := by omega
    subst hi3
    rw [if_neg (by omega)]
    repeat (first
    | refine wC_a rfl ?_
    | refine q_s rfl ?_
    | refine q_b rfl ?_
    | refine wG_nil ?_
    | refine wG_g rfl ?_
    | refine wG_pure (o_len_vwm rfl) ?_
    | refine wG_pure (o_not_d rfl) ?_
    | refine wG_p rfl (by first | exact rfl | omega) ?_
    | refine wG_pure (o_str2 rfl rfl rfl) ?_
    | refine wG_pure (e_istr rfl rfl (by omega)) ?_
    | refine wG_pure (e_istr0 rfl rfl (by omega)) ?_
    | refine wG_pure (o_not rfl) ?_
    | refine wG_pure (e_ia_vw0 rfl rfl (by omega) rfl) ?_
    | refine wG_pure (e_ia_vwp rfl rfl (by omega) rfl) ?_
    | refine wG_pure (e_ia_vwm rfl rfl (by omega) (by omega) rfl) ?_
    | refine wG_pure (e_ia_vwi rfl rfl (by omega) rfl) ?_
    | refine wG_pure (e_ia_vwn rfl rfl (by omega) (by omega) rfl) ?_
    | refine wG_n rfl rfl ?_
    | refine wG_u rfl rfl ?_
    | refine wG_new (o_mks rfl rfl (by omega) (by decide)) ?_)
    exact ret_intE (.inr rfl) ⟨_, retV_mv rfl, rfl⟩
def z0 : Dn → List AV := fun _ => [.int .i64 0, .nilS]
def tdO (xs : List Dn) : List Ab.Rows := nR hD 1 xs xs.length z0 :: nO hD xs xs.length
theorem tdO_len (xs : List Dn) : (tdO xs).length = xs.length + 1 := by rw [tdO, List.length_cons, nO_len (Nat.le_refl _)]
theorem con18 (nn : Bool) (xs : List Dn) (hlen : xs.length ≤ 1048576) (hL : LenN xs 1048576) : ConG Try.prog 18 true [.vw nn (xs.map nD)] (.sl 0 2 0 xs.length) (tdO xs) := by
  refine con_of_wpG mixed fun18 (by simp) (List.range (xs.length + 1)) nest_N ?_
  unfold ac18 ro18
  simp only [zipT]
  have e0 : ∀ n : Nat, 0 + ((n : Int)).toNat = n := fun n => by simp
  have hz : ∀ m, ∀ x ∈ xs, ∀ y ∈ z0 x, AV.ltr m y = true := fun m x _ y hy => by
    simp only [z0, List.mem_cons, List.not_mem_nil, or_false] at hy
    rcases hy with rfl | rfl <;> rfl
  have hwf := fun i (hi : i ≤ xs.length) => hN_wf (K := hD) (q := 0) (b := 1) (z := z0) (nr := 1 + i) hi (by omega) (Nat.le_refl _) (hz (1 + i))
  repeat (first | refine wG_new (o_mks rfl rfl (by omega) (by decide)) ?_ | (first
    | refine wC_a rfl ?_
    | refine q_s rfl ?_
    | refine q_b rfl ?_
    | refine wG_nil ?_
    | refine wG_g rfl ?_
    | refine wG_pure (o_len_vwm rfl) ?_
    | refine wG_pure (o_not_d rfl) ?_
    | refine wG_p rfl (by first | exact rfl | omega) ?_
    | refine wG_pure (o_str2 rfl rfl rfl) ?_
    | refine wG_pure (e_istr rfl rfl (by omega)) ?_
    | refine wG_pure (e_istr0 rfl rfl (by omega)) ?_
    | refine wG_pure (o_not rfl) ?_
    | refine wG_pure (e_ia_vw0 rfl rfl (by omega) rfl) ?_
    | refine wG_pure (e_ia_vwp rfl rfl (by omega) rfl) ?_
    | refine wG_pure (e_ia_vwm rfl rfl (by omega) (by omega) rfl) ?_
    | refine wG_pure (e_ia_vwi rfl rfl (by omega) rfl) ?_
    | refine wG_pure (e_ia_vwn rfl rfl (by omega) (by omega) rfl) ?_
    | refine wG_n rfl rfl ?_
    | refine wG_u rfl rfl ?_
    | refine wG_new (o_mks rfl rfl (by omega) (by decide)) ?_))
  refine wC_loopX Nat (fun i => ⟨[(0, .vw nn (xs.map nD)), (3, .sl 0 2 0 xs.length), (4, .int .i64 (i : Int))], hN hD 0 1 xs i z0, 1 + i⟩) (fun i => i ≤ xs.length) (fun i => xs.length - i) 0 (Nat.zero_le _) ?_ ?_
  · refine .inl (Le_of ⟨⟨rfl, rfl⟩, ⟨rfl, rfl⟩, ⟨rfl, rfl⟩, trivial⟩ (fun q rows hq => ?_) (hwf 0 (Nat.zero_le _)))
    rcases hN_cs (Nat.zero_le _) hq with ⟨rfl, rfl⟩ | ⟨_, i, hi, _⟩
    · refine hg_here.trans (congrArg some ?_)
      rw [nR_0]
      exact List.map_const'.symm
    · exact absurd hi (Nat.not_lt_zero _)
  intro i hi
  repeat (first
    | refine wC_a rfl ?_
    | refine q_s rfl ?_
    | refine q_b rfl ?_
    | refine wG_nil ?_
    | refine wG_g rfl ?_
    | refine wG_pure (o_len_vwm rfl) ?_
    | refine wG_pure (o_not_d rfl) ?_
    | refine wG_p rfl (by first | exact rfl | omega) ?_
    | refine wG_pure (o_str2 rfl rfl rfl) ?_
    | refine wG_pure (e_istr rfl rfl (by omega)) ?_
    | refine wG_pure (e_istr0 rfl rfl (by omega)) ?_
    | refine wG_pure (o_not rfl) ?_
    | refine wG_pure (e_ia_vw0 rfl rfl (by omega) rfl) ?_
    | refine wG_pure (e_ia_vwp rfl rfl (by omega) rfl) ?_
    | refine wG_pure (e_ia_vwm rfl rfl (by omega) (by omega) rfl) ?_
    | refine wG_pure (e_ia_vwi rfl rfl (by omega) rfl) ?_
    | refine wG_pure (e_ia_vwn rfl rfl (by omega) (by omega) rfl) ?_
    | refine wG_n rfl rfl ?_
    | refine wG_u rfl rfl ?_
    | refine wG_new (o_mks rfl rfl (by omega) (by decide)) ?_)
  refine wC_cond_d rfl (fun h2 => ?_) (fun h2 => ?_)
  · have hi2 : i < xs.length := by omega
    have c := con54 (xs.getD i default).b (xs.getD i default).d (hL i hi2)
    have hat := nR_at (K := hD) (b := 1) (z := z0) hi2
    have hset := nR_set (K := hD) (b := 1) (z := z0) hi2
    repeat (first | refine wG_call1 c rfl rfl ?_ | (refine wG_pure (e_ia_sl rfl rfl (by omega) (by omega)) ?_; simp only [e0]) | refine wG_upd (o_st_agg rfl (hg_skip (by omega) hN_q) hat rfl rfl rfl hset) ?_ | (first
    | refine wC_a rfl ?_
    | refine q_s rfl ?_
    | refine q_b rfl ?_
    | refine wG_nil ?_
    | refine wG_g rfl ?_
    | refine wG_pure (o_len_vwm rfl) ?_
    | refine wG_pure (o_not_d rfl) ?_
    | refine wG_p rfl (by first | exact rfl | omega) ?_
    | refine wG_pure (o_str2 rfl rfl rfl) ?_
    | refine wG_pure (e_istr rfl rfl (by omega)) ?_
    | refine wG_pure (e_istr0 rfl rfl (by omega)) ?_
    | refine wG_pure (o_not rfl) ?_
    | refine wG_pure (e_ia_vw0 rfl rfl (by omega) rfl) ?_
    | refine wG_pure (e_ia_vwp rfl rfl (by omega) rfl) ?_
    | refine wG_pure (e_ia_vwm rfl rfl (by omega) (by omega) rfl) ?_
    | refine wG_pure (e_ia_vwi rfl rfl (by omega) rfl) ?_
    | refine wG_pure (e_ia_vwn rfl rfl (by omega) (by omega) rfl) ?_
    | refine wG_n rfl rfl ?_
    | refine wG_u rfl rfl ?_
    | refine wG_new (o_mks rfl rfl (by omega) (by decide)) ?_))
    refine ⟨i + 1, hi2, by omega, .inl (Le_of ⟨⟨rfl, rfl⟩, ⟨rfl, rfl⟩, ⟨rfl, rfl⟩, trivial⟩ (hN_step hi2 hg_here (hg_skip (by omega) hg_here) (fun r rows h1 h2 h3 => hg_skip h1 (hg_skip h2 h3))) (hwf (i + 1) hi2))⟩
  · have hi3 : i = xs.length := by omega
    subst hi3
    repeat (first
    | refine wC_a rfl ?_
    | refine q_s rfl ?_
    | refine q_b rfl ?_
    | refine wG_nil ?_
    | refine wG_g rfl ?_
    | refine wG_pure (o_len_vwm rfl) ?_
    | refine wG_pure (o_not_d rfl) ?_
    | refine wG_p rfl (by first | exact rfl | omega) ?_
    | refine wG_pure (o_str2 rfl rfl rfl) ?_
    | refine wG_pure (e_istr rfl rfl (by omega)) ?_
    | refine wG_pure (e_istr0 rfl rfl (by omega)) ?_
    | refine wG_pure (o_not rfl) ?_
    | refine wG_pure (e_ia_vw0 rfl rfl (by omega) rfl) ?_
    | refine wG_pure (e_ia_vwp rfl rfl (by omega) rfl) ?_
    | refine wG_pure (e_ia_vwm rfl rfl (by omega) (by omega) rfl) ?_
    | refine wG_pure (e_ia_vwi rfl rfl (by omega) rfl) ?_
    | refine wG_pure (e_ia_vwn rfl rfl (by omega) (by omega) rfl) ?_
    | refine wG_n rfl rfl ?_
    | refine wG_u rfl rfl ?_
    | refine wG_new (o_mks rfl rfl (by omega) (by decide)) ?_)
    exact retG_N (.inr rfl) (retV_mv rfl) (fun r rows h => h)
theorem con21 (nn mm : Bool) (xs : List Dn) (hlen : xs.length ≤ 1048576) (hL : LenN xs 1048576) : Con Try.prog 21 true [.vw nn (xs.map nD), .vw mm (xs.map nD)] (.bool true) [] := by
  refine con_of_wp mixed fun21 (by simp) [] plain_nil ?_
  unfold ac21 ro21
  simp only [zipT]
  have d1 : decide ((xs.length : Int) ≠ (xs.length : Int)) = false := decide_eq_false (fun h => h rfl)
  repeat (first
    | refine wC_a rfl ?_
    | refine q_s rfl ?_
    | refine q_b rfl ?_
    | refine wG_nil ?_
    | refine wG_g rfl ?_
    | refine wG_pure (o_len_vwm rfl) ?_
    | refine wG_pure (o_not_d rfl) ?_
    | refine wG_p rfl (by first | exact rfl | omega) ?_
    | refine wG_pure (o_str2 rfl rfl rfl) ?_
    | refine wG_pure (e_istr rfl rfl (by omega)) ?_
    | refine wG_pure (e_istr0 rfl rfl (by omega)) ?_
    | refine wG_pure (o_not rfl) ?_
    | refine wG_pure (e_ia_vw0 rfl rfl (by omega) rfl) ?_
    | refine wG_pure (e_ia_vwp rfl rfl (by omega) rfl) ?_
    | refine wG_pure (e_ia_vwm rfl rfl (by omega) (by omega) rfl) ?_
    | refine wG_pure (e_ia_vwi rfl rfl (by omega) rfl) ?_
    | refine wG_pure (e_ia_vwn rfl rfl (by omega) (by omega) rfl) ?_
    | refine wG_n rfl rfl ?_
    | refine wG_u rfl rfl ?_
    | refine wG_new (o_mks rfl rfl (by omega) (by decide)) ?_)
  simp only [d1]
  repeat (first
    | refine wC_a rfl ?_
    | refine q_s rfl ?_
    | refine q_b rfl ?_
    | refine wG_nil ?_
    | refine wG_g rfl ?_
    | refine wG_pure (o_len_vwm rfl) ?_
    | refine wG_pure (o_not_d rfl) ?_
    | refine wG_p rfl (by first | exact rfl | omega) ?_
    | refine wG_pure (o_str2 rfl rfl rfl) ?_
    | refine wG_pure (e_istr rfl rfl (by omega)) ?_
    | refine wG_pure (e_istr0 rfl rfl (by omega)) ?_
    | refine wG_pure (o_not rfl) ?_
    | refine wG_pure (e_ia_vw0 rfl rfl (by omega) rfl) ?_
    | refine wG_pure (e_ia_vwp rfl rfl (by omega) rfl) ?_
    | refine wG_pure (e_ia_vwm rfl rfl (by omega) (by omega) rfl) ?_
    | refine wG_pure (e_ia_vwi rfl rfl (by omega) rfl) ?_
    | refine wG_pure (e_ia_vwn rfl rfl (by omega) (by omega) rfl) ?_
    | refine wG_n rfl rfl ?_
    | refine wG_u rfl rfl ?_
    | refine wG_new (o_mks rfl rfl (by omega) (by decide)) ?_)
  refine wC_loop Nat (fun i => ⟨[(0, .vw nn (xs.map nD)), (1, .vw mm (xs.map nD)), (5, .int .i64 (i : Int))], [], 0⟩) (fun i => i ≤ xs.length) (fun i => xs.length - i) 0 (Nat.zero_le _) ?_ (fun _ _ => Nat.zero_le _) ?_
  · exact ⟨⟨⟨rfl, rfl⟩, ⟨rfl, rfl⟩, ⟨rfl, rfl⟩, trivial⟩, trivial⟩
  intro i hi
  repeat (first
    | refine wC_a rfl ?_
    | refine q_s rfl ?_
    | refine q_b rfl ?_
    | refine wG_nil ?_
    | refine wG_g rfl ?_
    | refine wG_pure (o_len_vwm rfl) ?_
    | refine wG_pure (o_not_d rfl) ?_
    | refine wG_p rfl (by first | exact rfl | omega) ?_
    | refine wG_pure (o_str2 rfl rfl rfl) ?_
    | refine wG_pure (e_istr rfl rfl (by omega)) ?_
    | refine wG_pure (e_istr0 rfl rfl (by omega)) ?_
    | refine wG_pure (o_not rfl) ?_
    | refine wG_pure (e_ia_vw0 rfl rfl (by omega) rfl) ?_
    | refine wG_pure (e_ia_vwp rfl rfl (by omega) rfl) ?_
    | refine wG_pure (e_ia_vwm rfl rfl (by omega) (by omega) rfl) ?_
    | refine wG_pure (e_ia_vwi rfl rfl (by omega) rfl) ?_
    | refine wG_pure (e_ia_vwn rfl rfl (by omega) (by omega) rfl) ?_
    | refine wG_n rfl rfl ?_
    | refine wG_u rfl rfl ?_
    | refine wG_new (o_mks rfl rfl (by omega) (by decide)) ?_)
  refine wC_cond_d rfl (fun h2 => ?_) (fun h2 => ?_)
  · have hi2 : i < xs.length := by omega
    have c := con20_same (xs.getD i default).b (xs.getD i default).b (xs.getD i default).d (hL i hi2)
    repeat (first | refine wG_call c rfl rfl ?_ | (first
    | refine wC_a rfl ?_
    | refine q_s rfl ?_
    | refine q_b rfl ?_
    | refine wG_nil ?_
    | refine wG_g rfl ?_
    | refine wG_pure (o_len_vwm rfl) ?_
    | refine wG_pure (o_not_d rfl) ?_
    | refine wG_p rfl (by first | exact rfl | omega) ?_
    | refine wG_pure (o_str2 rfl rfl rfl) ?_
    | refine wG_pure (e_istr rfl rfl (by omega)) ?_
    | refine wG_pure (e_istr0 rfl rfl (by omega)) ?_
    | refine wG_pure (o_not rfl) ?_
    | refine wG_pure (e_ia_vw0 rfl rfl (by omega) rfl) ?_
    | refine wG_pure (e_ia_vwp rfl rfl (by omega) rfl) ?_
    | refine wG_pure (e_ia_vwm rfl rfl (by omega) (by omega) rfl) ?_
    | refine wG_pure (e_ia_vwi rfl rfl (by omega) rfl) ?_
    | refine wG_pure (e_ia_vwn rfl rfl (by omega) (by omega) rfl) ?_
    | refine wG_n rfl rfl ?_
    | refine wG_u rfl rfl ?_
    | refine wG_new (o_mks rfl rfl (by omega) (by decide)) ?_))
    exact ⟨i + 1, hi2, by omega, ⟨⟨rfl, rfl⟩, ⟨rfl, rfl⟩, ⟨rfl, rfl⟩, trivial⟩, trivial⟩
  · have hi3 : i = xs.length := by omega
    subst hi3
    repeat (first
    | refine wC_a rfl ?_
    | refine q_s rfl ?_
    | refine q_b rfl ?_
    | refine wG_nil ?_
    | refine wG_g rfl ?_
    | refine wG_pure (o_len_vwm rfl) ?_
    | refine wG_pure (o_not_d rfl) ?_
    | refine wG_p rfl (by first | exact rfl | omega) ?_
    | refine wG_pure (o_str2 rfl rfl rfl) ?_
    | refine wG_pure (e_istr rfl rfl (by omega)) ?_
    | refine wG_pure (e_istr0 rfl rfl (by omega)) ?_
    | refine wG_pure (o_not rfl) ?_
    | refine wG_pure (e_ia_vw0 rfl rfl (by omega) rfl) ?_
    | refine wG_pure (e_ia_vwp rfl rfl (by omega) rfl) ?_
    | refine wG_pure (e_ia_vwm rfl rfl (by omega) (by omega) rfl) ?_
    | refine wG_pure (e_ia_vwi rfl rfl (by omega) rfl) ?_
    | refine wG_pure (e_ia_vwn rfl rfl (by omega) (by omega) rfl) ?_
    | refine wG_n rfl rfl ?_
    | refine wG_u rfl rfl ?_
    | refine wG_new (o_mks rfl rfl (by omega) (by decide)) ?_)
    exact ret_boolE (.inr rfl) ⟨_, retV_mv rfl, rfl⟩

def sL (xs : List Dn) : Nat → Nat
  | 0 => 0
  | i + 1 => sL xs i + (xs.getD i default).d.ws.length
theorem szN_sL (xs : List Dn) (l : Int) : ∀ i, szN xs l i = l - sL xs i
  | 0 => by simp [szN, sL]
  | i + 1 => by rw [szN, szN_sL xs l i, sL]; omega
theorem sL_mono (xs : List Dn) (i : Nat) : ∀ d, sL xs i ≤ sL xs (i + d)
  | 0 => Nat.le_refl _
  | d + 1 => by
    have := sL_mono xs i d
    show _ ≤ sL xs (i + d) + _
    omega
theorem sL_le {xs : List Dn} {i n : Nat} (h : i ≤ n) : sL xs i ≤ sL xs n := by
  have := sL_mono xs i (n - i)
  rwa [show i + (n - i) = n by omega] at this
theorem szD_sum {xs : List Dn} {l : Int} (h : 0 ≤ szD l xs) : (xs.length : Int) + sL xs xs.length ≤ l := by
  unfold szD at h
  by_cases h1 : l - (xs.length : Int) < 0
  · rw [if_pos h1] at h; omega
  · rw [if_neg h1] at h
    by_cases h2 : szN xs (l - xs.length) xs.length < 0
    · rw [if_pos h2] at h; omega
    · rw [szN_sL] at h2; omega
/-- The first i have been marked. -/
def mD (xs : List Dn) (k : Int) (i : Nat) : List Dn := (List.range xs.length).map fun j => if j < i then ⟨true, ⟨k + j + sL xs j, mks (k + j + sL xs j + 1) (xs.getD j default).d.ws.length⟩⟩ else xs.getD j default
theorem mD_len (xs : List Dn) (k : Int) (i : Nat) : (mD xs k i).length = xs.length := by simp [mD]
theorem mD_get {xs : List Dn} {k : Int} {i j : Nat} (h : j < xs.length) : (mD xs k i).getD j default = if j < i then ⟨true, ⟨k + j + sL xs j, mks (k + j + sL xs j + 1) (xs.getD j default).d.ws.length⟩⟩ else xs.getD j default := by
  simp [mD, List.getD_eq_getElem?_getD, List.getElem?_map, List.getElem?_range h]
theorem mD_0 (xs : List Dn) (k : Int) : mD xs k 0 = xs := by
  refine List.ext_getElem (mD_len _ _ _) fun j h1 h2 => ?_
  simp [mD, List.getD_eq_getElem?_getD, List.getElem?_eq_getElem h2]
theorem mD_ne {xs : List Dn} {k : Int} {i j : Nat} (h : j < xs.length) (e : j ≠ i) : (mD xs k (i + 1)).getD j default = (mD xs k i).getD j default := by
  rw [mD_get h, mD_get h]
  by_cases g : j < i
  · rw [if_pos g, if_pos (by omega)]
  · rw [if_neg g, if_neg (by omega)]
def hM (q b : Nat) (xs : List Dn) (h' : List (Nat × Option Ab.Rows)) : List (Nat × Option Ab.Rows) := (q, some (nR hD b xs xs.length z0)) :: (mkh b (nO hD xs xs.length) ++ h')
section
variable {q b : Nat} {xs : List Dn} {h' : List (Nat × Option Ab.Rows)}
theorem hM_q : hg (hM q b xs h') q = some (nR hD b xs xs.length z0) := hg_here
theorem hM_in {i : Nat} (hi : i < xs.length) (hq : b + i ≠ q) : hg (hM q b xs h') (b + i) = some ((xs.getD i default).d.ws.map iRow) :=
  hg_skip hq (hg_in (by omega) (by rw [Nat.add_sub_cancel_left]; exact nO_get (K := hD) hi (Nat.le_refl _)))
theorem hM_cs {r : Nat} {rows : Ab.Rows} (h : hg (hM q b xs h') r = some rows) : (r = q ∧ rows = nR hD b xs xs.length z0) ∨ (r ≠ q ∧ ∃ i, i < xs.length ∧ r = b + i ∧ rows = (xs.getD i default).d.ws.map iRow) ∨ (r ≠ q ∧ (r < b ∨ b + xs.length ≤ r) ∧ hg h' r = some rows) := by
  by_cases e : r = q
  · subst e
    rw [hM_q] at h
    exact .inl ⟨rfl, (Option.some.inj h).symm⟩
  · have h2 : hg (mkh b (nO hD xs xs.length) ++ h') r = some rows := by simpa [hM, Ab.hg, upd, e] using h
    rw [hg_app, nO_len (Nat.le_refl _)] at h2
    split at h2
    · rename_i hc
      refine .inr (.inl ⟨e, r - b, by omega, by omega, ?_⟩)
      rw [nO_get (by omega) (Nat.le_refl _)] at h2
      exact (Option.some.inj h2).symm
    · exact .inr (.inr ⟨e, by omega, h2⟩)
theorem hM_out {r : Nat} {rows : Ab.Rows} (h1 : r ≠ q) (h2 : r < b ∨ b + xs.length ≤ r) (h : hg h' r = some rows) : hg (hM q b xs h') r = some rows :=
  hg_skip h1 (hg_out (fun hc => by have h3 := hc.1; have h4 := hc.2; rw [nO_len (Nat.le_refl _)] at h4; omega) h)
theorem hM_wf {nr : Nat} (hq : q < nr) (hb : b + xs.length ≤ nr) (hw : wfH h' nr) : wfH (hM q b xs h') nr := by
  intro r rows hr
  rcases hM_cs hr with ⟨rfl, rfl⟩ | ⟨_, i, hi, rfl, rfl⟩ | ⟨_, _, h3⟩
  · exact ⟨hq, nR_ltr hb (fun x _ y hy => by
      simp only [z0, List.mem_cons, List.not_mem_nil, or_false] at hy
      rcases hy with rfl | rfl <;> rfl)⟩
  · exact ⟨by omega, ltrI _ _⟩
  · exact hw r rows h3
end
theorem nR_row {b : Nat} {xs : List Dn} {i : Nat} (h : i < xs.length) : (nR hD b xs xs.length z0)[i]? = some [.int .i64 (xs.getD i default).d.f, .sl (b + i) 1 0 (xs.getD i default).d.ws.length] := nR_get_n (K := hD) h
theorem mD_set {b : Nat} {xs : List Dn} {k : Int} {i : Nat} (h : i < xs.length) : (nR hD b (mD xs k i) (mD xs k i).length z0).set i [.int .i64 (k + i + sL xs i), .sl (b + i) 1 0 (xs.getD i default).d.ws.length] = nR hD b (mD xs k (i + 1)) (mD xs k (i + 1)).length z0 := by
  refine List.ext_getElem? fun j => ?_
  by_cases hj : j < xs.length
  · have e2 := nR_row (b := b) (xs := mD xs k (i + 1)) (i := j) (by rw [mD_len]; exact hj)
    have e1 := nR_row (b := b) (xs := mD xs k i) (i := j) (by rw [mD_len]; exact hj)
    rw [e2]
    by_cases e : i = j
    · subst e
      rw [List.getElem?_set_self (by rw [nR_len, mD_len]; exact hj), mD_get hj, if_pos (Nat.lt_succ_self _)]
      simp [mks_len]
    · rw [List.getElem?_set_ne e, e1, mD_ne hj (Ne.symm e)]
  · rw [List.getElem?_eq_none (by rw [List.length_set, nR_len, mD_len]; omega), List.getElem?_eq_none (by rw [nR_len, mD_len]; omega)]
theorem sh22 (xs : List Dn) (k : Int) (h3 : xs.length ≤ 1048576) (hS : sL xs xs.length ≤ 1048576) (h0 : 0 ≤ k) (hk : k ≤ 8388608) {h h' : List (Nat × Option Ab.Rows)} {nr q b : Nat} (hin : ∀ r rows, hg (hM q b xs h') r = some rows → hg h r = some rows) (hq : q < nr) (hb : b + xs.length ≤ nr) (hqb : q < b ∨ b + xs.length ≤ q) (hk' : ∀ r rows, hg h' r = some rows → r ≠ q ∧ (r < b ∨ b + xs.length ≤ r)) (hw' : wfH h' nr) :
    Sh Try.prog 22 [.sl q 2 0 xs.length, .int .i64 k] h nr (.int .i64 (k + xs.length + sL xs xs.length)) h' nr := by
  refine sh_of_wp mixed fun22 (by simp) ?_
  unfold ac22 ro22
  simp only [zipT]
  have e0 : ∀ n : Nat, 0 + ((n : Int)).toNat = n := fun n => by simp
  have hwf := fun i => hM_wf (q := q) (b := b) (xs := mD xs k i) (h' := h') hq (by rw [mD_len]; exact hb) hw'
  repeat (first
    | refine wC_a rfl ?_
    | refine q_s rfl ?_
    | refine q_b rfl ?_
    | refine wG_nil ?_
    | refine wG_g rfl ?_
    | refine wG_pure (o_len_vwm rfl) ?_
    | refine wG_pure (o_not_d rfl) ?_
    | refine wG_p rfl (by first | exact rfl | omega) ?_
    | refine wG_pure (o_str2 rfl rfl rfl) ?_
    | refine wG_pure (e_istr rfl rfl (by omega)) ?_
    | refine wG_pure (e_istr0 rfl rfl (by omega)) ?_
    | refine wG_pure (o_not rfl) ?_
    | refine wG_pure (e_ia_vw0 rfl rfl (by omega) rfl) ?_
    | refine wG_pure (e_ia_vwp rfl rfl (by omega) rfl) ?_
    | refine wG_pure (e_ia_vwm rfl rfl (by omega) (by omega) rfl) ?_
    | refine wG_pure (e_ia_vwi rfl rfl (by omega) rfl) ?_
    | refine wG_pure (e_ia_vwn rfl rfl (by omega) (by omega) rfl) ?_
    | refine wG_n rfl rfl ?_
    | refine wG_u rfl rfl ?_
    | refine wG_new (o_mks rfl rfl (by omega) (by decide)) ?_)
  refine wC_loopS Nat (fun i => ⟨[(0, .sl q 2 0 xs.length), (1, .int .i64 (k + i + sL xs i)), (5, .int .i64 (i : Int))], hM q b (mD xs k i) h', nr⟩) (fun i => i ≤ xs.length) (fun i => xs.length - i) 0 (Nat.zero_le _) ?_ (fun _ _ => Nat.le_refl _) ?_
  · refine Le_of ⟨⟨rfl, by simp [AV.ltr]; exact hq⟩, ⟨?_, rfl⟩, ⟨rfl, rfl⟩, trivial⟩ (fun r rows hr => ?_) (hwf 0)
    · show AV.int _ _ = AV.int _ _
      congr 1
      show k = k + ((0 : Nat) : Int) + ((0 : Nat) : Int)
      omega
    · rw [mD_0] at hr
      exact hin r rows hr
  intro i hi
  repeat (first
    | refine wC_a rfl ?_
    | refine q_s rfl ?_
    | refine q_b rfl ?_
    | refine wG_nil ?_
    | refine wG_g rfl ?_
    | refine wG_pure (o_len_vwm rfl) ?_
    | refine wG_pure (o_not_d rfl) ?_
    | refine wG_p rfl (by first | exact rfl | omega) ?_
    | refine wG_pure (o_str2 rfl rfl rfl) ?_
    | refine wG_pure (e_istr rfl rfl (by omega)) ?_
    | refine wG_pure (e_istr0 rfl rfl (by omega)) ?_
    | refine wG_pure (o_not rfl) ?_
    | refine wG_pure (e_ia_vw0 rfl rfl (by omega) rfl) ?_
    | refine wG_pure (e_ia_vwp rfl rfl (by omega) rfl) ?_
    | refine wG_pure (e_ia_vwm rfl rfl (by omega) (by omega) rfl) ?_
    | refine wG_pure (e_ia_vwi rfl rfl (by omega) rfl) ?_
    | refine wG_pure (e_ia_vwn rfl rfl (by omega) (by omega) rfl) ?_
    | refine wG_n rfl rfl ?_
    | refine wG_u rfl rfl ?_
    | refine wG_new (o_mks rfl rfl (by omega) (by decide)) ?_)
  refine wC_cond_d rfl (fun h5 => ?_) (fun h5 => ?_)
  · have hi2 : i < xs.length := by omega
    have hsi := sL_le (xs := xs) (show i + 1 ≤ xs.length by omega)
    have hup : sL xs (i + 1) = sL xs i + (xs.getD i default).d.ws.length := rfl
    have hbi : b + i ≠ q := by omega
    have hrow := nR_row (b := b) (xs := mD xs k i) (i := i) (by rw [mD_len]; exact hi2)
    rw [mD_get hi2, if_neg (Nat.lt_irrefl i)] at hrow
    have hset := mD_set (b := b) (k := k) hi2
    have hinn := hM_in (q := q) (b := b) (xs := mD xs k i) (h' := h') (i := i) (by rw [mD_len]; exact hi2) hbi
    rw [mD_get hi2, if_neg (Nat.lt_irrefl i)] at hinn
    have hrow2 : (nR hD b (mD xs k (i + 1)) (mD xs k (i + 1)).length z0)[i]? = some [.int .i64 (k + i + sL xs i), .sl (b + i) 1 0 (xs.getD i default).d.ws.length] := by
      rw [nR_row (by rw [mD_len]; exact hi2), mD_get hi2, if_pos (Nat.lt_succ_self _)]
      simp [mks_len]
    have hw1 : wfH ((q, some (nR hD b (mD xs k (i + 1)) (mD xs k (i + 1)).length z0)) :: hM q b (mD xs k i) h') nr := wfH_cons hq (hwf (i + 1) q _ hM_q).2 (hwf i)
    have sm := sh58 (xs.getD i default).d.ws (k + i + sL xs i + 1) (by omega) (by omega) (by omega) (r := b + i) (hg_skip hbi hinn) hw1
    repeat (first | (refine wG_pure (e_ia_sl rfl rfl (by omega) (by omega)) ?_; simp only [e0]) | refine wG_upd (o_st1 rfl hM_q hrow rfl rfl hset) ?_ | refine wG_pure (o_ldf_pt rfl hg_here hrow2 rfl) ?_ | refine wG_callS sm rfl ?_ | (first
    | refine wC_a rfl ?_
    | refine q_s rfl ?_
    | refine q_b rfl ?_
    | refine wG_nil ?_
    | refine wG_g rfl ?_
    | refine wG_pure (o_len_vwm rfl) ?_
    | refine wG_pure (o_not_d rfl) ?_
    | refine wG_p rfl (by first | exact rfl | omega) ?_
    | refine wG_pure (o_str2 rfl rfl rfl) ?_
    | refine wG_pure (e_istr rfl rfl (by omega)) ?_
    | refine wG_pure (e_istr0 rfl rfl (by omega)) ?_
    | refine wG_pure (o_not rfl) ?_
    | refine wG_pure (e_ia_vw0 rfl rfl (by omega) rfl) ?_
    | refine wG_pure (e_ia_vwp rfl rfl (by omega) rfl) ?_
    | refine wG_pure (e_ia_vwm rfl rfl (by omega) (by omega) rfl) ?_
    | refine wG_pure (e_ia_vwi rfl rfl (by omega) rfl) ?_
    | refine wG_pure (e_ia_vwn rfl rfl (by omega) (by omega) rfl) ?_
    | refine wG_n rfl rfl ?_
    | refine wG_u rfl rfl ?_
    | refine wG_new (o_mks rfl rfl (by omega) (by decide)) ?_))
    refine ⟨i + 1, hi2, by omega, Le_of ⟨⟨rfl, by simp [AV.ltr]; exact hq⟩, ⟨?_, rfl⟩, ⟨rfl, rfl⟩, trivial⟩ (fun r rows hr => ?_) (hwf (i + 1))⟩
    · show AV.int _ _ = AV.int _ _
      congr 1
      rw [hup]
      omega
    · rcases hM_cs hr with ⟨rfl, rfl⟩ | ⟨g1, j, hj, rfl, rfl⟩ | ⟨g1, g2, g3⟩
      · exact hg_skip (Ne.symm hbi) hg_here
      · rw [mD_len] at hj
        by_cases e : j = i
        · subst e
          rw [mD_get hi2, if_pos (Nat.lt_succ_self _)]
          exact hg_here
        · rw [mD_ne hj e]
          exact hg_skip (by omega) (hg_skip g1 (hM_in (by rw [mD_len]; exact hj) g1))
      · rw [mD_len] at g2
        exact hg_skip (by omega) (hg_skip g1 (hM_out g1 (by rw [mD_len]; exact g2) g3))
  · have hi3 : i = xs.length := by omega
    subst hi3
    repeat (first
    | refine wC_a rfl ?_
    | refine q_s rfl ?_
    | refine q_b rfl ?_
    | refine wG_nil ?_
    | refine wG_g rfl ?_
    | refine wG_pure (o_len_vwm rfl) ?_
    | refine wG_pure (o_not_d rfl) ?_
    | refine wG_p rfl (by first | exact rfl | omega) ?_
    | refine wG_pure (o_str2 rfl rfl rfl) ?_
    | refine wG_pure (e_istr rfl rfl (by omega)) ?_
    | refine wG_pure (e_istr0 rfl rfl (by omega)) ?_
    | refine wG_pure (o_not rfl) ?_
    | refine wG_pure (e_ia_vw0 rfl rfl (by omega) rfl) ?_
    | refine wG_pure (e_ia_vwp rfl rfl (by omega) rfl) ?_
    | refine wG_pure (e_ia_vwm rfl rfl (by omega) (by omega) rfl) ?_
    | refine wG_pure (e_ia_vwi rfl rfl (by omega) rfl) ?_
    | refine wG_pure (e_ia_vwn rfl rfl (by omega) (by omega) rfl) ?_
    | refine wG_n rfl rfl ?_
    | refine wG_u rfl rfl ?_
    | refine wG_new (o_mks rfl rfl (by omega) (by decide)) ?_)
    refine ⟨trivial, _, retVs_1 (retV_mv rfl), ?_, Nat.le_refl _⟩
    refine Le_of ⟨⟨rfl, rfl⟩, trivial⟩ (fun r rows hr => ?_) hw'
    obtain ⟨g1, g2⟩ := hk' r rows hr
    exact hM_out g1 (by rw [mD_len]; exact g2) hr
end Go.Proofs.Ytnohaclnpbpjbaa.Dst
