/- PacketNeeds holds for every input. No condition. -/
import Derived.Test.YtofgajlpdnokdaaDoorPks
import Derived.Test.YtofgajlpdnokdaaDoorPacketNeedsCard
import Derived.Deep.RegionHeld3
namespace Go.Proofs.YtofgajlpdnokdaaDoor
set_option linter.unusedVariables false
open Go.ChangeShapes Go.WideShapes Go.ChangeAt Go.RowKit

/-- Rounded up. -/
def cl (a c : Nat) : Nat := (a + c - 1) / c
theorem cl_mul (a c : Nat) (h : 0 < c) : a ≤ cl a c * c := by
  unfold cl
  have h1 := Nat.lt_div_mul_add (a := a + c - 1) h
  omega
theorem cl_le {a c x : Nat} (h : 0 < c) (hx : a ≤ x * c) : cl a c ≤ x := by
  unfold cl
  have : a + c - 1 < (x + 1) * c := by rw [Nat.add_mul]; omega
  have := (Nat.div_lt_iff_lt_mul h).2 this
  omega
theorem cl_add (a b c : Nat) (h : 0 < c) : cl (a + b) c ≤ cl a c + cl b c := by
  refine cl_le h ?_
  have h1 := cl_mul a c h
  have h2 := cl_mul b c h
  rw [Nat.add_mul]
  omega
theorem cl_zero (c : Nat) (h : 0 < c) : cl 0 c = 0 := by
  have := cl_le (a := 0) (x := 0) h (by omega)
  omega
theorem tk_cl (g c : Nat) (h : 0 < c) (hg : 0 < g) : tk g c = cl g c := by
  unfold tk cl
  rw [if_neg (by omega), if_neg (by omega)]
  have e : g + c - 1 = (g - 1) + c := by omega
  rw [e, Nat.add_div_right _ h]

/-- The ticks of each, together. -/
def tkL (rate : Nat) (l : List Pq) : Nat := (l.map fun p => tk (gr p.len) rate).sum
theorem tkL_snoc (rate : Nat) (l : List Pq) (p : Pq) : tkL rate (l ++ [p]) = tkL rate l + tk (gr p.len) rate := by simp [tkL]
theorem grL_cons (l : List Pq) (p : Pq) : grL (p :: l) = gr p.len + grL l := by simp [grL]
theorem tkL_cons (rate : Nat) (l : List Pq) (p : Pq) : tkL rate (p :: l) = tk (gr p.len) rate + tkL rate l := by simp [tkL]
def okLen (p : Pq) : Prop := 1 ≤ p.len ∧ p.len ≤ 65535
theorem gr_ok {p : Pq} (h : okLen p) : 0 < gr p.len ∧ gr p.len ≤ 16776960 ∧ (gr p.len : Int) = p.len * 256 := by
  obtain ⟨h1, h2⟩ := h
  unfold gr
  rw [if_neg (by omega), if_neg (by omega)]
  omega
theorem grL_le (l : List Pq) (h : ∀ p ∈ l, okLen p) : grL l ≤ l.length * 16776960 := by
  induction l with
  | nil => simp [grL]
  | cons p l ih =>
    have h1 := gr_ok (h p (by simp))
    have h2 := ih (fun q hq => h q (by simp [hq]))
    rw [grL_cons, List.length_cons]
    omega
theorem tk_bd {g rate : Nat} (hr : 0 < rate) (hg : 0 < g) : 1 ≤ tk g rate ∧ tk g rate ≤ g ∧ g ≤ tk g rate * rate ∧ (tk g rate - 1) * rate < g := by
  unfold tk
  rw [if_neg (by omega), if_neg (by omega)]
  have h1 := Nat.div_le_self (g - 1) rate
  have h2 := Nat.lt_div_mul_add (a := g - 1) hr
  have h3 := Nat.div_mul_le_self (g - 1) rate
  generalize (g - 1) / rate = q at h1 h2 h3 ⊢
  refine ⟨by omega, by omega, ?_, ?_⟩
  · rw [Nat.add_mul]; omega
  · rw [Nat.add_sub_cancel]; omega
theorem tkL_le (rate : Nat) (hr : 0 < rate) (l : List Pq) (h : ∀ p ∈ l, okLen p) : tkL rate l ≤ l.length * 16776960 := by
  induction l with
  | nil => simp [tkL]
  | cons p l ih =>
    have h1 := gr_ok (h p (by simp))
    have h2 := ih (fun q hq => h q (by simp [hq]))
    have h3 := tk_bd hr h1.1
    rw [tkL_cons, List.length_cons]
    omega
theorem cl_tkL (rate : Nat) (hr : 0 < rate) (l : List Pq) (h : ∀ p ∈ l, okLen p) : cl (grL l) rate ≤ tkL rate l := by
  induction l with
  | nil => rw [show grL [] = 0 from rfl, cl_zero _ hr]; omega
  | cons p l ih =>
    have h1 := gr_ok (h p (by simp))
    have h2 := ih (fun q hq => h q (by simp [hq]))
    rw [grL_cons, tkL_cons, tk_cl _ _ hr h1.1]
    have := cl_add (gr p.len) (grL l) rate hr
    omega
theorem cl_one (rate : Nat) (hr : 0 < rate) (l : List Pq) (h : ∀ p ∈ l, okLen p) (h1 : l.length = 1) : cl (grL l) rate = tkL rate l := by
  match l, h1 with
  | [p], _ =>
    have h1 := gr_ok (h p (by simp))
    rw [grL_cons, tkL_cons, tk_cl _ _ hr h1.1]
    simp [grL, tkL]
/-- What the law tells at last. -/
theorem needs_fin (rate : Nat) (hr : 0 < rate) (l : List Pq) (h : ∀ p ∈ l, okLen p) (hl : l.length ≤ 100) : upN (allN l) rate ≤ tkL rate l ∧ (l.length = 1 → upN (allN l) rate = tkL rate l) ∧ tkL rate l ≤ 1677696000 := by
  have h1 := grL_le l h
  have h2 := tkL_le rate hr l h
  have h3 := cl_tkL rate hr l h
  have e : allN l = grL l := by unfold allN; rw [capN_eq]; omega
  have e2 : upN (allN l) rate = cl (grL l) rate := by
    rw [e]
    show min (cl (grL l) rate) capN = _
    rw [capN_eq]
    omega
  rw [e2]
  exact ⟨h3, fun h1 => cl_one rate hr l h h1, by omega⟩

theorem mayE_ok' {n : Int} (h : 1 ≤ n ∧ n ≤ 65535) : mayE n 65535 = 0 := by unfold mayE; rw [if_neg (by omega), if_neg (by omega)]
theorem cmp_low (m n : Nat) (hn : n < 18446744073709551616) (w : World) :
    Calls Tryd.prog 27 #[.agg #[.int .u64 ((m / 18446744073709551616 : Nat) : Int), .int .u64 ((m % 18446744073709551616 : Nat) : Int)], .agg #[.int .u64 0, .int .u64 (n : Int)]] w fun e w' => e = .returned (.int .i64 (cmpN m n)) ∧ Chg NoChg w w' := by
  have h := wCmp_any m n w
  have e1 : n / 18446744073709551616 = 0 := Nat.div_eq_of_lt hn
  have e2 : n % 18446744073709551616 = n := Nat.mod_eq_of_lt hn
  generalize m / 18446744073709551616 = a at h ⊢
  generalize m % 18446744073709551616 = b at h ⊢
  rw [e1, e2] at h
  exact h

set_option maxRecDepth 100000 in
set_option maxHeartbeats 8000000 in
theorem packetNeeds_main (l : List Pq) (a : Option Addr) (cap : Nat) (rate : Nat) (w : World) (hl : l.length ≤ 100) (hr0 : 0 < rate) (hr1 : rate < 18446744073709551616) (hr : RowAt Pq.cells 4 w a l) (hwf : ∀ p ∈ l, p.wf) (hd : Door w) :
    Calls Tryd.prog 8 #[.slice a l.length cap, .int .u64 (rate : Int)] w fun e w' => e = .returned (.bool true) ∧ Chg NoChg w w' := by
  have HR := hide hr
  have HW := hide hwf
  have HA := hide (l10awake_any w hd)
  clear hr hwf hd
  have l1 : ¬ (100 : Int) < (l.length : Int) := by omega
  have l2 : ((rate : Int) == 0) = false := by simp; omega
  have R0 := hide hr0
  have R1 := hide hr1
  clear hr0 hr1
  go_enter Tryd.func8, Tryd.ntmps8
  go_wp2_with fail
  refine HA.out.mono ?_
  rintro e w0 ⟨rfl, c0⟩
  have C0 := hide c0
  clear c0
  go_wp2
  go_loopw [5, 6] (fun s i wr => ∃ k : Nat, k ≤ l.length ∧ i = .int .i64 (k : Int) ∧ s = .int .u64 (tkL rate (l.take k) : Int) ∧ Hid (∀ p ∈ l.take k, okLen p) ∧ Hid (Chg NoChg w wr)) (fun _ i _ => l.length - (RowKit.intOf i).toNat)
  case atStart => exact ⟨0, by omega, rfl, rfl, hide (fun p hp => by simp at hp), C0⟩
  case round =>
    obtain ⟨k, hk, rfl, rfl, HOK, HC⟩ := hrel
    clear C0
    by_cases hlt : k < l.length
    · obtain ⟨g, o, rfl, s0, s1, s2, s3⟩ := row_cells (HR.out.keep HC.out (fun _ _ h => h)) k hlt
      have hwp := HW.out l[k] (List.getElem_mem hlt)
      have HRC := hide (fun (W : World) (x : Chg NoChg w W) => row_cells (HR.out.keep x (fun _ _ h => h)) k hlt)
      have HM := hide (pkMay_any l[k].id l[k].at_ l[k].cls l[k].len 65535)
      have HT := hide (tkL_snoc rate (l.take k) l[k])
      have HOK2 := hide (fun (h : okLen l[k]) => (fun p hp => by
        rw [List.take_succ_eq_append_getElem hlt] at hp
        rcases List.mem_append.1 hp with hp | hp
        · exact HOK.out p hp
        · simp at hp; subst hp; exact h : ∀ p ∈ l.take (k + 1), okLen p))
      have HLE := hide (tkL_le rate R0.out (l.take k) HOK.out)
      have HG := hide (pkGrains_any l[k].id l[k].at_ l[k].cls l[k].len hwp.2.2.2.2)
      have HTK := hide (pkTicks_any l[k].id l[k].at_ l[k].cls l[k].len hwp.2.2.2.2 rate R1.out)
      have HGR := hide (fun (h : okLen l[k]) => gr_ok h)
      rw [← List.take_succ_eq_append_getElem hlt] at HT
      have HKK := hide hk
      have k0 : (0 : Int) ≤ (k : Int) := by omega
      have k1 : (k : Int) < (l.length : Int) := by omega
      clear hwp
      by_cases hok : 1 ≤ l[k].len ∧ l[k].len ≤ 65535
      · have hgr := HGR.out hok
        have htb := tk_bd R0.out hgr.1
        have HOK3 := hide (HOK2.out hok)
        rw [mayE_ok' hok] at HM
        clear HOK2 HGR HOK
        obtain ⟨n1, n2⟩ := hok
        generalize hgg : gr l[k].len = G at HT HG HTK hgr htb
        generalize htt : tk G rate = T at HT HTK htb
        clear hgg htt
        have HMU1 := hide (fun W => wMul_any T rate W (by omega) R1.out)
        have HMU2 := hide (fun W => wMul_any (T - 1) rate W (by omega) R1.out)
        have HCM1 := hide (fun W => cmp_low (T * rate) G (by omega) W)
        have HCM2 := hide (fun W => cmp_low ((T - 1) * rate) G (by omega) W)
        have c1 : decide (cmpN (T * rate) G < 0) = false := by
          unfold cmpN
          rw [if_neg (by omega)]
          split <;> rfl
        have c2 : decide (0 ≤ cmpN ((T - 1) * rate) G) = false := by
          unfold cmpN
          rw [if_pos (by omega)]
          rfl
        generalize cmpN (T * rate) G = x1 at HCM1 c1
        generalize cmpN ((T - 1) * rate) G = x2 at HCM2 c2
        generalize T * rate / 18446744073709551616 = a1 at HMU1 HCM1
        generalize T * rate % 18446744073709551616 = a2 at HMU1 HCM1
        generalize (T - 1) * rate / 18446744073709551616 = a3 at HMU2 HCM2
        generalize (T - 1) * rate % 18446744073709551616 = a4 at HMU2 HCM2
        have hGn : (G : Int) = l[k].len * 256 := hgr.2.2
        have hT1 : ((T - 1 : Nat) : Int) = (T : Int) - 1 := by omega
        rw [hT1] at HMU2
        have hw1 : IntKind.u64.wrap l[k].len = l[k].len := IntWalk.u64_in _ (by omega)
        have hw2 : IntKind.u64.wrap (l[k].len * 256) = l[k].len * 256 := IntWalk.u64_in _ (by omega)
        have hw3 : ((G : Int) != l[k].len * 256) = false := by simp; omega
        have hw4 : ¬ (T : Int) < 1 := by omega
        have hw5 : IntKind.u64.wrap ((T : Int) - 1) = (T : Int) - 1 := IntWalk.u64_in _ (by omega)
        have hle2 : tkL rate (l.take k) ≤ 1677696000 := by
          have := HLE.out
          have e : (l.take k).length ≤ 100 := by simp; omega
          omega
        have hw6 : IntKind.u64.wrap ((tkL rate (l.take k) : Int) + (T : Int)) = (tkL rate (l.take k) : Int) + (T : Int) := IntWalk.u64_in _ (by omega)
        generalize hy : tkL rate (l.take k) = Y at HT hw6 ⊢
        clear hle2 htb hgr hT1 hy hGn HLE
        go_wp2_with fail
        refine (HM.out _).mono ?_
        rintro e w1 ⟨rfl, x1⟩
        have C1 := hide (HC.out.trans' x1)
        clear x1 s0 s1 s2 s3
        have KEEP : Hid (∀ W, Chg NoChg w1 W → W.cell? ⟨g, o + k * 4, none⟩ = some (.int .u64 (l[k].id : Int)) ∧ W.cell? ⟨g, o + k * 4 + 1, none⟩ = some (.int .i64 l[k].cls) ∧ W.cell? ⟨g, o + k * 4 + 2, none⟩ = some (.int .i64 l[k].len) ∧ W.cell? ⟨g, o + k * 4 + 3, none⟩ = some (.int .u64 (l[k].at_ : Int))) := hide (fun W x => by
          obtain ⟨g', o', he, q⟩ := HRC.out W (C1.out.trans' x)
          obtain ⟨rfl, rfl⟩ : g = g' ∧ o = o' := by simpa using he
          exact q)
        go_wp2
        go_region_held3 (fun w' : World => w'.cell? ⟨g, o + k * 4, none⟩ = some (.int .u64 (l[k].id : Int)) ∧ w'.cell? ⟨g, o + k * 4 + 1, none⟩ = some (.int .i64 l[k].cls) ∧ w'.cell? ⟨g, o + k * 4 + 2, none⟩ = some (.int .i64 l[k].len) ∧ w'.cell? ⟨g, o + k * 4 + 3, none⟩ = some (.int .u64 (l[k].at_ : Int))) (exact KEEP.out _ (by (repeat' (first | (with_reducible exact Chg.refl _ _) | (with_reducible assumption) | (with_reducible refine Chg.alloc ?_ _) | (with_reducible refine Chg.drewN ?_ _) | (with_reducible refine Chg.drew ?_) | (with_reducible refine Chg.setCell ?_ _ ?_) | (apply Or.inl; with_reducible rfl) | (apply Or.inl; simp; done) | (apply Or.inr; simp; done) | (apply Or.inr; simp; omega))))) (first | (go_at_call 24; with_reducible refine (HG.out _).mono ?_; rintro e w2 ⟨rfl, y2⟩; replace y2 : Chg NoChg w1 w2 := Chg.trans' (by (repeat' (first | (with_reducible exact Chg.refl _ _) | (with_reducible assumption) | (with_reducible refine Chg.alloc ?_ _) | (with_reducible refine Chg.drewN ?_ _) | (with_reducible refine Chg.drew ?_) | (with_reducible refine Chg.setCell ?_ _ ?_) | (apply Or.inl; with_reducible rfl) | (apply Or.inl; simp; done) | (apply Or.inr; simp; done) | (apply Or.inr; simp; omega)))) y2) | (go_at_call 25; with_reducible refine (HTK.out _).mono ?_; rintro e w3 ⟨rfl, y3⟩; replace y3 : Chg NoChg w1 w3 := Chg.trans' (by (repeat' (first | (with_reducible exact Chg.refl _ _) | (with_reducible assumption) | (with_reducible refine Chg.alloc ?_ _) | (with_reducible refine Chg.drewN ?_ _) | (with_reducible refine Chg.drew ?_) | (with_reducible refine Chg.setCell ?_ _ ?_) | (apply Or.inl; with_reducible rfl) | (apply Or.inl; simp; done) | (apply Or.inr; simp; done) | (apply Or.inr; simp; omega)))) y3))
        all_goals
          have C3 := hide (C1.out.trans' y3)
          obtain ⟨s0, s1, s2, s3⟩ := KEEP.out _ y3
          clear y2 y3 KEEP
          go_wp2_with fail
          refine (HMU1.out _).mono ?_
          rintro e w4 ⟨rfl, y4⟩
          have C4 := hide (C3.out.trans' y4)
          clear y4 s0 s1 s2 s3
          go_wp2_with fail
          refine (HCM1.out _).mono ?_
          rintro e w5 ⟨rfl, y5⟩
          have C5 := hide (C4.out.trans' y5)
          clear y5
          go_wp2_with fail
          refine (HMU2.out _).mono ?_
          rintro e w6 ⟨rfl, y6⟩
          have C6 := hide (C5.out.trans' y6)
          clear y6
          go_wp2_with fail
          refine (HCM2.out _).mono ?_
          rintro e w7 ⟨rfl, y7⟩
          have C7 := hide (C6.out.trans' y7)
          clear y7
          go_wp2
          go_roundw
          case rel => exact ⟨k + 1, by omega, by go_num, by rw [HT.out]; go_num, HOK3, C7⟩
          case measure => simp [RowKit.intOf]; omega
      · obtain ⟨x, hx, hx0⟩ : ∃ x, mayE l[k].len 65535 = x ∧ x ≠ 0 := ⟨_, rfl, fun h => hok (by unfold mayE at h; rw [if_neg (by omega)] at h; split at h <;> omega)⟩
        rw [hx] at HM
        have hx1 : (x != 0) = true := by simp [hx0]
        clear hok hx hx0 HOK2 HGR
        go_wp2_with fail
        refine (HM.out _).mono ?_
        rintro e w1 ⟨rfl, x1⟩
        have C1 := hide (HC.out.trans' x1)
        clear x1
        go_wp2
        go_ret
        exact ⟨rfl, C1.out⟩
    · obtain rfl : k = l.length := by omega
      rw [List.take_of_length_le (Nat.le_refl _)] at HOK ⊢
      have hfin := needs_fin rate R0.out l HOK.out hl
      have HAL := hide (fun (W : World) (x : Chg NoChg w W) => pkAll_any l a cap W (by omega) (HR.out.keep x (fun _ _ h => h)) HW.out)
      have HUP := hide (raUp_any (allN l) rate (by have := allN_le l; omega) R1.out R0.out)
      generalize allN l = A at HAL HUP hfin
      generalize upN A rate = U at HUP hfin
      generalize tkL rate l = T at hfin ⊢
      obtain ⟨f1, f2, f3⟩ := hfin
      have e1 : decide (U ≤ T) = true := by simpa using f1
      have HALx := hide (HAL.out _ HC.out)
      by_cases h1 : l.length = 1
      · have e2 : ((l.length : Int) != 1) = false := by simp; omega
        obtain rfl := f2 h1
        clear f1 f2 f3 h1 HAL HOK
        go_wp2_with fail
        refine HALx.out.mono ?_
        rintro e w1 ⟨rfl, x1⟩
        have C1 := hide (HC.out.trans' x1)
        clear x1
        go_wp2_with fail
        refine (HUP.out _).mono ?_
        rintro e w2 ⟨rfl, x2⟩
        have C2 := hide (C1.out.trans' x2)
        clear x2
        go_wp2
        go_ret
        exact ⟨rfl, C2.out⟩
      · have e2 : ((l.length : Int) != 1) = true := by simp; omega
        clear f1 f2 f3 h1 HAL HOK
        go_wp2_with fail
        refine HALx.out.mono ?_
        rintro e w1 ⟨rfl, x1⟩
        have C1 := hide (HC.out.trans' x1)
        clear x1
        go_wp2_with fail
        refine (HUP.out _).mono ?_
        rintro e w2 ⟨rfl, x2⟩
        have C2 := hide (C1.out.trans' x2)
        clear x2
        go_wp2
        go_ret
        exact ⟨rfl, C2.out⟩

set_option maxRecDepth 100000 in
theorem packetNeeds_skip (l : List Pq) (a : Option Addr) (cap : Nat) (rate : Nat) (w : World) (h : 100 < l.length ∨ rate = 0) (hd : Door w) :
    Calls Tryd.prog 8 #[.slice a l.length cap, .int .u64 (rate : Int)] w fun e w' => e = .returned (.bool true) ∧ Chg NoChg w w' := by
  have HA := hide (l10awake_any w hd)
  clear hd
  by_cases hl : 100 < l.length
  · have l1 : (100 : Int) < (l.length : Int) := by omega
    clear h
    go_enter Tryd.func8, Tryd.ntmps8
    go_wp2_with fail
    refine HA.out.mono ?_
    rintro e w0 ⟨rfl, c0⟩
    go_wp2
    go_ret
    exact ⟨rfl, c0⟩
  · have l1 : ¬ (100 : Int) < (l.length : Int) := by omega
    obtain rfl : rate = 0 := by omega
    clear h
    go_enter Tryd.func8, Tryd.ntmps8
    go_wp2_with fail
    refine HA.out.mono ?_
    rintro e w0 ⟨rfl, c0⟩
    go_wp2
    go_ret
    exact ⟨rfl, c0⟩

set_option maxRecDepth 100000 in
theorem packetNeeds_law {H : Type} (enc : TypeId × Value → H) : LawWalkL enc Tryd.prog Rows.packetNeedsRow.laid 8 Tryd.f8 := by
  intro W base args ds p hval0 hA0 hsz hlt hL hS
  have hd := door_of_laid hL hS
  have hval : ∀ (j : Nat) t v, Tryd.f8.params[j]? = some t → args[j]? = some v → Value.okWide Tryd.prog W .any base t v := hval0
  have hA := hA0
  rw [Tryd.params8] at hA hval
  obtain ⟨v0, v1, d0, d1, p0, p1, rfl, rfl, rfl, h0, h1⟩ := trodAll_two hA
  obtain ⟨xs, hx, hfit, hlen⟩ := open_flats Tryd.underlying53 pktK (by kernel_rfl) (by decide) (hval 0 53 v0 rfl rfl) h0
  obtain ⟨l, rfl, hwf⟩ := typed_list Pq.cells Pq.wf xs (fun x hxm => Pq.of_fits (hfit x hxm))
  obtain ⟨a, cap, rfl, hcap, hnone, hrow⟩ := hx.row
  obtain ⟨r, rfl, rfl, rfl, hw⟩ := open_int Tryd.underlying22 (hval 1 22 v1 rfl rfl) h1
  obtain ⟨rate, rfl, hr⟩ := u64_nat hw
  by_cases h : 100 < l.length ∨ rate = 0
  · exact (packetNeeds_skip l a cap rate W h hd).mono fun e w' h => ⟨h.1, h.2.below⟩
  · exact (packetNeeds_main l a cap rate W (by omega) (by omega) hr hrow hwf hd).mono fun e w' h => ⟨h.1, h.2.below⟩

theorem packetNeeds_holds : Rows.PacketNeedsCardSaid := packetNeeds_card fun H enc => packetNeeds_law enc
end Go.Proofs.YtofgajlpdnokdaaDoor
