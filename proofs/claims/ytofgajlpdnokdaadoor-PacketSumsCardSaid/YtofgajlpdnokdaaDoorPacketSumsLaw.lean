/- PacketSums holds for every input. No condition. -/
import Derived.Test.YtofgajlpdnokdaaDoorPks
import Derived.Test.YtofgajlpdnokdaaDoorPacketSumsCard
import Derived.Deep.RegionHeld3
namespace Go.Proofs.YtofgajlpdnokdaaDoor
set_option linter.unusedVariables false
open Go.ChangeShapes Go.WideShapes Go.ChangeAt Go.RowKit

theorem Blk.rowP (w : World) (p : Pq) (e : TypeId) : RowAt Pq.cells 4 (w.alloc (.cells #[.int .u64 (p.id : Int), .int .i64 p.cls, .int .i64 p.len, .int .u64 (p.at_ : Int)] e)) (some ⟨w.heap.size, 0, none⟩) [p] := by
  intro i hi
  obtain rfl : i = 0 := by simpa using hi
  refine ⟨w.heap.size, 0, rfl, fun j u hu => ?_⟩
  simp only [List.getElem_cons_zero] at hu
  rw [Nat.zero_mul, Nat.add_zero, Nat.zero_add, (Blk.new w #[.int .u64 (p.id : Int), .int .i64 p.cls, .int .i64 p.len, .int .u64 (p.at_ : Int)] e).cell]
  simpa [Pq.cells] using hu

theorem own_nextP {w wr : World} {v v2 : Value} {S : Nat → Prop} (hc : Chg S w wr) (hG : ∀ g, v.ownBlock = some g → w.heap.size ≤ g) (hv : v2.ownBlock = v.ownBlock ∨ v2.ownBlock = some (wr.heap.size + 1)) : ∀ g, v2.ownBlock = some g → w.heap.size ≤ g := by
  intro g hg
  have := hc.size
  rcases hv with e | e
  · rw [e] at hg; exact hG g hg
  · rw [e] at hg
    have := Option.some.inj hg
    omega

theorem allN_rev (l : List Pq) : allN l.reverse = allN l := by
  unfold allN grL
  rw [List.map_reverse, List.sum_reverse]
theorem allN_split (l : List Pq) (k : Nat) : plusN (allN (l.take k)) (allN (l.drop k)) = allN l := by
  have h : grL l = grL (l.take k) + grL (l.drop k) := by
    conv => lhs; rw [← List.take_append_drop k l]
    unfold grL
    rw [List.map_append, List.sum_append]
  unfold plusN allN
  omega

/-- What is told of a packet: five ways. -/
theorem mayE_lo {n most : Int} (h : ¬ 1 ≤ most) : mayE n most = 2 := by unfold mayE; rw [if_pos (.inl (by omega))]
theorem mayE_hi {n most : Int} (h : ¬ most < 65536) : mayE n most = 2 := by unfold mayE; rw [if_pos (.inr (by omega))]
theorem mayE_less {n most : Int} (h : 1 ≤ most) (h' : most < 65536) (hn : ¬ 1 ≤ n) : mayE n most = 100 := by unfold mayE; rw [if_neg (by omega), if_pos (.inl (by omega))]
theorem mayE_more {n most : Int} (h : 1 ≤ most) (h' : most < 65536) (hn : ¬ n ≤ most) : mayE n most = 100 := by unfold mayE; rw [if_neg (by omega), if_pos (.inr (by omega))]
theorem mayE_ok {n most : Int} (h : 1 ≤ most) (h' : most < 65536) (hn : 1 ≤ n) (hm : n ≤ most) : mayE n most = 0 := by unfold mayE; rw [if_neg (by omega), if_neg (by omega)]

set_option maxRecDepth 100000 in
set_option maxHeartbeats 8000000 in
theorem packetSums_main (l : List Pq) (a : Option Addr) (cap : Nat) (at_ most : Int) (w : World) (hl : l.length ≤ 100) (hcap : l.length ≤ cap) (ha : a = none → cap = 0) (hr : RowAt Pq.cells 4 w a l) (hwf : ∀ p ∈ l, p.wf) (hd : Door w) :
    Calls Tryd.prog 7 #[.slice a l.length cap, .int .i64 at_, .int .i64 most] w fun e w' => e = .returned (.bool true) ∧ Chg NoChg w w' := by
  have HR := hide hr
  have HW := hide hwf
  have HA := hide (l10awake_any w hd)
  clear hr hwf hd
  have l1 : ¬ (100 : Int) < (l.length : Int) := by omega
  obtain ⟨A, hA⟩ : ∃ A : Nat, IntKind.u64.wrap at_ = (A : Int) := ⟨(at_ % 18446744073709551616).toNat, by rw [IntKind.wrap_u64]; omega⟩
  obtain ⟨K, hK⟩ : ∃ K : Nat, K = A % (l.length + 1) := ⟨_, rfl⟩
  have hKl : K ≤ l.length := by have := Nat.mod_lt A (show 0 < l.length + 1 by omega); omega
  have r1 : Int.tmod (A : Int) ((l.length : Int) + 1) = (K : Int) := by rw [Int.tmod_eq_emod_of_nonneg (by omega), hK]; rfl
  have r2 : (A : Int) % ((l.length : Int) + 1) = (K : Int) := by rw [hK]; rfl
  have HK : Hid (K ≤ l.length) := hide hKl
  clear hK
  go_enter Tryd.func7, Tryd.ntmps7
  go_wp2_with fail
  refine HA.out.mono ?_
  rintro e w0 ⟨rfl, c0⟩
  have C0 := hide c0
  clear c0
  go_wp2
  go_loopw [8, 9] (fun v i wr => ∃ k : Nat, k ≤ l.length ∧ i = .int .i64 ((k : Int) - 1) ∧ Hid (Own Pq.cells 4 24 wr v (l.drop k).reverse) ∧ Hid (∀ g, v.ownBlock = some g → w.heap.size ≤ g) ∧ Hid (Chg NoChg w wr)) (fun _ i _ => (RowKit.intOf i + 1).toNat)
  case atStart => exact ⟨l.length, Nat.le_refl _, by go_num, hide (by rw [List.drop_length]; exact Own.nil _ _ _ _), hide (fun g h => by cases h), C0⟩
  case round =>
    obtain ⟨k, hk, rfl, HO, HG, HC⟩ := hrel
    clear r1 r2
    match k, hk with
    | 0, _ =>
      rw [show ((0 : Nat) : Int) - 1 = -1 from rfl]
      rw [List.drop_zero] at HO
      obtain ⟨a8, cap8, rfl, -, -, hrow8⟩ := Own.row (sz := 4) (cells := Pq.cells) (fun _ => rfl) HO.out
      have HB := hide (fun (W : World) (x : Chg NoChg wr W) => pkAll_any l.reverse a8 cap8 W (by simp; omega) (hrow8.keep x (fun _ _ h => h)) (fun p hp => HW.out p (by simpa using hp)))
      rw [allN_rev] at HB
      have HL := hide (fun (W : World) (x : Chg NoChg wr W) => pkAll_any l a cap W (by omega) (HR.out.keep (HC.out.trans' x) (fun _ _ h => h)) (fun p hp => HW.out p hp))
      have HT := hide (fun (W : World) (x : Chg NoChg wr W) => pkAll_any (l.take K) a cap W (by simp; omega) ((HR.out.keep (HC.out.trans' x) (fun _ _ h => h)).take K) (fun p hp => HW.out p (List.mem_of_mem_take hp)))
      have hKl := HK.out
      rw [show (l.take K).length = K from by simp; omega] at HT
      obtain ⟨a9, ha9⟩ : ∃ a9, a9 = (if cap = K then a else a.map (·.add (K * 4))) := ⟨_, rfl⟩
      have hrow9 : ∀ W, Chg NoChg wr W → RowAt Pq.cells 4 W a9 (l.drop K) := by
        intro W x
        have h0 := HR.out.keep (HC.out.trans' x) (fun _ _ h => h)
        by_cases hn : K < l.length
        · obtain ⟨g, o, rfl, _⟩ := h0 K hn
          have hne : ¬ cap = K := by omega
          rw [if_neg hne] at ha9
          subst ha9
          have h1 := h0.drop K
          have e : (some ⟨g, o, none⟩ : Option Addr).map (·.add (K * 4)) = some ⟨g, o + K * 4, none⟩ := by
            simp only [Option.map_some, Lib.add_plain]
          rw [e]
          exact h1
        · intro i hi
          simp at hi
          omega
      have HD := hide (fun (W : World) (x : Chg NoChg wr W) => pkAll_any (l.drop K) a9 (cap - K) W (by simp; omega) (hrow9 W x) (fun p hp => HW.out p (List.mem_of_mem_drop hp)))
      rw [show (l.drop K).length = l.length - K from by simp] at HD
      have hsl1 : ∀ W, (Instr.slice 53 (.slice a l.length cap) none (some (.int .i64 (K : Int))) none).run Tryd.prog W = .ok (.slice a K cap) W := fun W => by
        rw [run_slice_h _ _ _ _ _ (by kernel_rfl) .i64 (K : Int) (by omega) (by omega)]
        have e : (sizeOf (Tryd.prog.elem 53)).run Tryd.prog W = .ok 4 W := by kernel_rfl
        rw [e]
        have e2 : a.map (fun x => x.add 0) = a := by cases a <;> simp [Addr.add]
        simp [Result.andThen, sliced, e2]
      have hsl2 : ∀ W, (Instr.slice 53 (.slice a l.length cap) (some (.int .i64 (K : Int))) none none).run Tryd.prog W = .ok (.slice a9 (l.length - K) (cap - K)) W := fun W => by
        rw [run_slice_l _ _ _ _ _ (by kernel_rfl) .i64 (K : Int) (by omega) (by omega)]
        have e : (sizeOf (Tryd.prog.elem 53)).run Tryd.prog W = .ok 4 W := by kernel_rfl
        rw [e, ha9]
        simp [Result.andThen, sliced]
      have HP := hide (fun W => raPlus_any (allN (l.take K)) (allN (l.drop K)) (by have := allN_le (l.take K); omega) (by have := allN_le (l.drop K); omega) W)
      rw [allN_split] at HP
      have hle : ((allN l : Nat) : Int) ≤ 4611686018427387904 := by have := allN_le l; omega
      generalize allN l = s at HB HL HP hle
      generalize allN (l.take K) = s1 at HT HP
      generalize allN (l.drop K) = s2 at HD HP
      have hl8 : l.reverse.length = l.length := by simp
      rw [hl8] at HB ⊢
      clear HO HG hrow8 hrow9 ha9 hl8 HK HR
      have HLx := hide (HL.out wr (Chg.refl _ _))
      have kk0 : (0 : Int) ≤ (K : Int) := by omega
      go_wp2_with fail
      refine HLx.out.mono ?_
      rintro e w1 ⟨rfl, c1⟩
      have C1 := hide c1
      clear c1 HLx
      go_wp2
      go_region_held3 (fun w' : World => True) (trivial) (first | (go_at_call 22; with_reducible refine (HB.out _ (C1.out.trans' (by (repeat' (first | (with_reducible exact Chg.refl _ _) | (with_reducible assumption) | (with_reducible refine Chg.alloc ?_ _) | (with_reducible refine Chg.drewN ?_ _) | (with_reducible refine Chg.drew ?_) | (with_reducible refine Chg.setCell ?_ _ ?_) | (apply Or.inl; with_reducible rfl) | (apply Or.inl; simp; done) | (apply Or.inr; simp; done) | (apply Or.inr; simp; omega)))))).mono ?_; rintro e w2 ⟨rfl, c2⟩; replace c2 : Chg NoChg w1 w2 := Chg.trans' (by (repeat' (first | (with_reducible exact Chg.refl _ _) | (with_reducible assumption) | (with_reducible refine Chg.alloc ?_ _) | (with_reducible refine Chg.drewN ?_ _) | (with_reducible refine Chg.drew ?_) | (with_reducible refine Chg.setCell ?_ _ ?_) | (apply Or.inl; with_reducible rfl) | (apply Or.inl; simp; done) | (apply Or.inr; simp; done) | (apply Or.inr; simp; omega)))) c2) | (go_at_call 22; with_reducible refine (HT.out _ (C1.out.trans' (by (repeat' (first | (with_reducible exact Chg.refl _ _) | (with_reducible assumption) | (with_reducible refine Chg.alloc ?_ _) | (with_reducible refine Chg.drewN ?_ _) | (with_reducible refine Chg.drew ?_) | (with_reducible refine Chg.setCell ?_ _ ?_) | (apply Or.inl; with_reducible rfl) | (apply Or.inl; simp; done) | (apply Or.inr; simp; done) | (apply Or.inr; simp; omega)))))).mono ?_; rintro e w3 ⟨rfl, c3⟩; replace c3 : Chg NoChg w1 w3 := Chg.trans' (by (repeat' (first | (with_reducible exact Chg.refl _ _) | (with_reducible assumption) | (with_reducible refine Chg.alloc ?_ _) | (with_reducible refine Chg.drewN ?_ _) | (with_reducible refine Chg.drew ?_) | (with_reducible refine Chg.setCell ?_ _ ?_) | (apply Or.inl; with_reducible rfl) | (apply Or.inl; simp; done) | (apply Or.inr; simp; done) | (apply Or.inr; simp; omega)))) c3) | (go_at_call 22; with_reducible refine (HD.out _ (C1.out.trans' (by (repeat' (first | (with_reducible exact Chg.refl _ _) | (with_reducible assumption) | (with_reducible refine Chg.alloc ?_ _) | (with_reducible refine Chg.drewN ?_ _) | (with_reducible refine Chg.drew ?_) | (with_reducible refine Chg.setCell ?_ _ ?_) | (apply Or.inl; with_reducible rfl) | (apply Or.inl; simp; done) | (apply Or.inr; simp; done) | (apply Or.inr; simp; omega)))))).mono ?_; rintro e w4 ⟨rfl, c4⟩; replace c4 : Chg NoChg w1 w4 := Chg.trans' (by (repeat' (first | (with_reducible exact Chg.refl _ _) | (with_reducible assumption) | (with_reducible refine Chg.alloc ?_ _) | (with_reducible refine Chg.drewN ?_ _) | (with_reducible refine Chg.drew ?_) | (with_reducible refine Chg.setCell ?_ _ ?_) | (apply Or.inl; with_reducible rfl) | (apply Or.inl; simp; done) | (apply Or.inr; simp; done) | (apply Or.inr; simp; omega)))) c4) | (go_at_call 23; with_reducible refine (HP.out _).mono ?_; rintro e w5 ⟨rfl, c5⟩; replace c5 : Chg NoChg w1 w5 := Chg.trans' (by (repeat' (first | (with_reducible exact Chg.refl _ _) | (with_reducible assumption) | (with_reducible refine Chg.alloc ?_ _) | (with_reducible refine Chg.drewN ?_ _) | (with_reducible refine Chg.drew ?_) | (with_reducible refine Chg.setCell ?_ _ ?_) | (apply Or.inl; with_reducible rfl) | (apply Or.inl; simp; done) | (apply Or.inr; simp; done) | (apply Or.inr; simp; omega)))) c5))
      all_goals
        have C5 := hide ((HC.out.trans' C1.out).trans' c5)
        clear c2 c3 c4 c5
        go_wp2
        go_ret
        exact ⟨rfl, C5.out⟩
    | j + 1, hk =>
      rw [show ((j + 1 : Nat) : Int) - 1 = (j : Int) from by omega]
      obtain ⟨g, o, rfl, s0, s1, s2, s3⟩ := row_cells (HR.out.keep HC.out (fun _ _ h => h)) j (by omega)
      have HRC := hide (fun (W : World) (x : Chg NoChg w W) => row_cells (HR.out.keep x (fun _ _ h => h)) j (by omega))
      have HM := hide (pkMay_any l[j].id l[j].at_ l[j].cls l[j].len most)
      have HLEN := hide (show ((l.drop (j + 1)).reverse ++ [l[j]]) = (l.drop j).reverse from by rw [List.drop_eq_getElem_cons (show j < l.length by omega), List.reverse_cons])
      have HROW := hide (fun W => Blk.rowP W l[j] 24)
      have hlen1 : (l.drop (j + 1)).reverse.length ≤ 100 := by simp; omega
      generalize (l.drop (j + 1)).reverse = L at HO HLEN hlen1
      generalize l[j] = p at s0 s1 s2 s3 HRC HM HLEN HROW ⊢
      obtain ⟨i, c, n, t⟩ := p
      have k0 : (0 : Int) ≤ (j : Int) := by omega
      have k1 : (j : Int) < (l.length : Int) := by omega
      by_cases m1 : 1 ≤ most
      · by_cases m2 : most < 65536
        · by_cases n1 : 1 ≤ n
          · by_cases n2 : n ≤ most
            · skip
              rw [mayE_ok m1 m2 n1 n2] at HM
              go_wp2_with (at_builtin; refine wpList_append_rec pqR rfl (.tmp 33) (.tmp 38) rfl _ L rfl (HO.out.keep ((Chg.refl NoChg _).alloc _) (fun _ _ h => h)) _ _ [⟨i, c, n, t⟩] rfl ?a1 ?a2 ?a3 ?a4 ?a5)
              try (case a1 => intro h; cases h)
              case a2 => exact HROW.out _
              case a3 => (try unfold maxLen); (try simp only [List.length_cons, List.length_nil]); omega
              case a4 => (try simp only [List.length_cons, List.length_nil]); omega
              intro v2 w2 hown hcc hv
              rw [HLEN.out] at hown
              have HO2 := hide hown
              have HC2 := hide ((HC.out.alloc _).trans hcc (fun j hj => .inr (HG.out j hj)))
              have HG2 : Hid (∀ g, v2.ownBlock = some g → w.heap.size ≤ g) := hide (own_nextP HC.out HG.out hv)
              clear hown hcc hv HO HC HG s0 s1 s2 s3
              obtain ⟨g', o', he, s0, s1, s2, s3⟩ := HRC.out _ HC2.out
              obtain ⟨rfl, rfl⟩ : g = g' ∧ o = o' := by simpa using he
              clear he
              go_wp2_with fail
              refine (HM.out _).mono ?_
              rintro e w3 ⟨rfl, c3⟩
              have HO3 := hide (HO2.out.keep c3 (fun _ _ h => h))
              have HC3 := hide (HC2.out.trans' c3)
              clear c3 s0 s1 s2 s3
              obtain ⟨g', o', he, s0, s1, s2, s3⟩ := HRC.out _ HC3.out
              obtain ⟨rfl, rfl⟩ : g = g' ∧ o = o' := by simpa using he
              clear he
              go_wp2
              go_roundw
              case rel => exact ⟨j, by omega, by go_num, HO3, HG2, HC3⟩
              case measure => simp [RowKit.intOf]
            · skip
              rw [mayE_more m1 m2 n2] at HM
              go_wp2_with (at_builtin; refine wpList_append_rec pqR rfl (.tmp 33) (.tmp 38) rfl _ L rfl (HO.out.keep ((Chg.refl NoChg _).alloc _) (fun _ _ h => h)) _ _ [⟨i, c, n, t⟩] rfl ?b1 ?b2 ?b3 ?b4 ?b5)
              try (case b1 => intro h; cases h)
              case b2 => exact HROW.out _
              case b3 => (try unfold maxLen); (try simp only [List.length_cons, List.length_nil]); omega
              case b4 => (try simp only [List.length_cons, List.length_nil]); omega
              intro v2 w2 hown hcc hv
              rw [HLEN.out] at hown
              have HO2 := hide hown
              have HC2 := hide ((HC.out.alloc _).trans hcc (fun j hj => .inr (HG.out j hj)))
              have HG2 : Hid (∀ g, v2.ownBlock = some g → w.heap.size ≤ g) := hide (own_nextP HC.out HG.out hv)
              clear hown hcc hv HO HC HG s0 s1 s2 s3
              obtain ⟨g', o', he, s0, s1, s2, s3⟩ := HRC.out _ HC2.out
              obtain ⟨rfl, rfl⟩ : g = g' ∧ o = o' := by simpa using he
              clear he
              go_wp2_with fail
              refine (HM.out _).mono ?_
              rintro e w3 ⟨rfl, c3⟩
              have HO3 := hide (HO2.out.keep c3 (fun _ _ h => h))
              have HC3 := hide (HC2.out.trans' c3)
              clear c3 s0 s1 s2 s3
              obtain ⟨g', o', he, s0, s1, s2, s3⟩ := HRC.out _ HC3.out
              obtain ⟨rfl, rfl⟩ : g = g' ∧ o = o' := by simpa using he
              clear he
              go_wp2
              go_roundw
              case rel => exact ⟨j, by omega, by go_num, HO3, HG2, HC3⟩
              case measure => simp [RowKit.intOf]
          · skip
            rw [mayE_less m1 m2 n1] at HM
            go_wp2_with (at_builtin; refine wpList_append_rec pqR rfl (.tmp 33) (.tmp 38) rfl _ L rfl (HO.out.keep ((Chg.refl NoChg _).alloc _) (fun _ _ h => h)) _ _ [⟨i, c, n, t⟩] rfl ?c1 ?c2 ?c3 ?c4 ?c5)
            try (case c1 => intro h; cases h)
            case c2 => exact HROW.out _
            case c3 => (try unfold maxLen); (try simp only [List.length_cons, List.length_nil]); omega
            case c4 => (try simp only [List.length_cons, List.length_nil]); omega
            intro v2 w2 hown hcc hv
            rw [HLEN.out] at hown
            have HO2 := hide hown
            have HC2 := hide ((HC.out.alloc _).trans hcc (fun j hj => .inr (HG.out j hj)))
            have HG2 : Hid (∀ g, v2.ownBlock = some g → w.heap.size ≤ g) := hide (own_nextP HC.out HG.out hv)
            clear hown hcc hv HO HC HG s0 s1 s2 s3
            obtain ⟨g', o', he, s0, s1, s2, s3⟩ := HRC.out _ HC2.out
            obtain ⟨rfl, rfl⟩ : g = g' ∧ o = o' := by simpa using he
            clear he
            go_wp2_with fail
            refine (HM.out _).mono ?_
            rintro e w3 ⟨rfl, c3⟩
            have HO3 := hide (HO2.out.keep c3 (fun _ _ h => h))
            have HC3 := hide (HC2.out.trans' c3)
            clear c3 s0 s1 s2 s3
            obtain ⟨g', o', he, s0, s1, s2, s3⟩ := HRC.out _ HC3.out
            obtain ⟨rfl, rfl⟩ : g = g' ∧ o = o' := by simpa using he
            clear he
            go_wp2
            go_roundw
            case rel => exact ⟨j, by omega, by go_num, HO3, HG2, HC3⟩
            case measure => simp [RowKit.intOf]
        · skip
          rw [mayE_hi m2] at HM
          go_wp2_with (at_builtin; refine wpList_append_rec pqR rfl (.tmp 33) (.tmp 38) rfl _ L rfl (HO.out.keep ((Chg.refl NoChg _).alloc _) (fun _ _ h => h)) _ _ [⟨i, c, n, t⟩] rfl ?d1 ?d2 ?d3 ?d4 ?d5)
          try (case d1 => intro h; cases h)
          case d2 => exact HROW.out _
          case d3 => (try unfold maxLen); (try simp only [List.length_cons, List.length_nil]); omega
          case d4 => (try simp only [List.length_cons, List.length_nil]); omega
          intro v2 w2 hown hcc hv
          rw [HLEN.out] at hown
          have HO2 := hide hown
          have HC2 := hide ((HC.out.alloc _).trans hcc (fun j hj => .inr (HG.out j hj)))
          have HG2 : Hid (∀ g, v2.ownBlock = some g → w.heap.size ≤ g) := hide (own_nextP HC.out HG.out hv)
          clear hown hcc hv HO HC HG s0 s1 s2 s3
          obtain ⟨g', o', he, s0, s1, s2, s3⟩ := HRC.out _ HC2.out
          obtain ⟨rfl, rfl⟩ : g = g' ∧ o = o' := by simpa using he
          clear he
          go_wp2_with fail
          refine (HM.out _).mono ?_
          rintro e w3 ⟨rfl, c3⟩
          have HO3 := hide (HO2.out.keep c3 (fun _ _ h => h))
          have HC3 := hide (HC2.out.trans' c3)
          clear c3 s0 s1 s2 s3
          obtain ⟨g', o', he, s0, s1, s2, s3⟩ := HRC.out _ HC3.out
          obtain ⟨rfl, rfl⟩ : g = g' ∧ o = o' := by simpa using he
          clear he
          go_wp2
          go_roundw
          case rel => exact ⟨j, by omega, by go_num, HO3, HG2, HC3⟩
          case measure => simp [RowKit.intOf]
      · skip
        rw [mayE_lo m1] at HM
        go_wp2_with (at_builtin; refine wpList_append_rec pqR rfl (.tmp 33) (.tmp 38) rfl _ L rfl (HO.out.keep ((Chg.refl NoChg _).alloc _) (fun _ _ h => h)) _ _ [⟨i, c, n, t⟩] rfl ?e1 ?e2 ?e3 ?e4 ?e5)
        try (case e1 => intro h; cases h)
        case e2 => exact HROW.out _
        case e3 => (try unfold maxLen); (try simp only [List.length_cons, List.length_nil]); omega
        case e4 => (try simp only [List.length_cons, List.length_nil]); omega
        intro v2 w2 hown hcc hv
        rw [HLEN.out] at hown
        have HO2 := hide hown
        have HC2 := hide ((HC.out.alloc _).trans hcc (fun j hj => .inr (HG.out j hj)))
        have HG2 : Hid (∀ g, v2.ownBlock = some g → w.heap.size ≤ g) := hide (own_nextP HC.out HG.out hv)
        clear hown hcc hv HO HC HG s0 s1 s2 s3
        obtain ⟨g', o', he, s0, s1, s2, s3⟩ := HRC.out _ HC2.out
        obtain ⟨rfl, rfl⟩ : g = g' ∧ o = o' := by simpa using he
        clear he
        go_wp2_with fail
        refine (HM.out _).mono ?_
        rintro e w3 ⟨rfl, c3⟩
        have HO3 := hide (HO2.out.keep c3 (fun _ _ h => h))
        have HC3 := hide (HC2.out.trans' c3)
        clear c3 s0 s1 s2 s3
        obtain ⟨g', o', he, s0, s1, s2, s3⟩ := HRC.out _ HC3.out
        obtain ⟨rfl, rfl⟩ : g = g' ∧ o = o' := by simpa using he
        clear he
        go_wp2
        go_roundw
        case rel => exact ⟨j, by omega, by go_num, HO3, HG2, HC3⟩
        case measure => simp [RowKit.intOf]

set_option maxRecDepth 100000 in
theorem packetSums_long (l : List Pq) (a : Option Addr) (cap : Nat) (at_ most : Int) (w : World) (hl : 100 < l.length) (hd : Door w) :
    Calls Tryd.prog 7 #[.slice a l.length cap, .int .i64 at_, .int .i64 most] w fun e w' => e = .returned (.bool true) ∧ Chg NoChg w w' := by
  have HA := hide (l10awake_any w hd)
  have l1 : (100 : Int) < (l.length : Int) := by omega
  clear hd
  go_enter Tryd.func7, Tryd.ntmps7
  go_wp2_with fail
  refine HA.out.mono ?_
  rintro e w0 ⟨rfl, c0⟩
  go_wp2
  go_ret
  exact ⟨rfl, c0⟩

set_option maxRecDepth 100000 in
theorem packetSums_law {H : Type} (enc : TypeId × Value → H) : LawWalkL enc Tryd.prog Rows.packetSumsRow.laid 7 Tryd.f7 := by
  intro W base args ds p hval0 hA0 hsz hlt hL hS
  have hd := door_of_laid hL hS
  have hval : ∀ (j : Nat) t v, Tryd.f7.params[j]? = some t → args[j]? = some v → Value.okWide Tryd.prog W .any base t v := hval0
  have hA := hA0
  rw [Tryd.params7] at hA hval
  obtain ⟨v0, v1, v2, d0, d1, d2, p0, p1, p2, rfl, rfl, rfl, h0, h1, h2⟩ := trodAll_three hA
  obtain ⟨xs, hx, hfit, hlen⟩ := open_flats Tryd.underlying53 pktK (by kernel_rfl) (by decide) (hval 0 53 v0 rfl rfl) h0
  obtain ⟨l, rfl, hwf⟩ := typed_list Pq.cells Pq.wf xs (fun x hxm => Pq.of_fits (hfit x hxm))
  obtain ⟨a, cap, rfl, hcap, hnone, hrow⟩ := hx.row
  obtain ⟨at_, rfl, rfl, rfl, _⟩ := open_int Tryd.underlying3 (hval 1 3 v1 rfl rfl) h1
  obtain ⟨most, rfl, rfl, rfl, _⟩ := open_int Tryd.underlying3 (hval 2 3 v2 rfl rfl) h2
  by_cases h : l.length ≤ 100
  · exact (packetSums_main l a cap at_ most W h hcap hnone hrow hwf hd).mono fun e w' h => ⟨h.1, h.2.below⟩
  · exact (packetSums_long l a cap at_ most W (by omega) hd).mono fun e w' h => ⟨h.1, h.2.below⟩

theorem packetSums_holds : Rows.PacketSumsCardSaid := packetSums_card fun H enc => packetSums_law enc
end Go.Proofs.YtofgajlpdnokdaaDoor
