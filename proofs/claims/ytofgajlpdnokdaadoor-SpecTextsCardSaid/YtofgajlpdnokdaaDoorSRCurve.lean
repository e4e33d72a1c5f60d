/- The document's Curve. Condition: at most 1000 bytes. -/
import Derived.Test.YtofgajlpdnokdaaDoorSCurve
namespace Go.Proofs.YtofgajlpdnokdaaDoor
set_option linter.unusedVariables false
open Go.Shelf Go.RowKit Go.Sort Go.Lib

/-- What holds of the words so far, at byte k, from f on. -/
def PIv (c : UInt8) (s : ByteArray) (k f : Nat) (L : List (List UInt8)) : Prop :=
  L.length ≤ k ∧ f ≤ k ∧ ((k ≤ s.size ∧ L ++ pieces c (s.data.toList.drop f) = pieces c s.data.toList ∧ c ∉ (s.data.toList.drop f).take (k - f)) ∨ (k = s.size + 1 ∧ L = pieces c s.data.toList))
section
variable {c : UInt8} {s : ByteArray} {k f : Nat} {L : List (List UInt8)}
theorem PIv.start (c : UInt8) (s : ByteArray) : PIv c s 0 0 [] := ⟨by simp, by simp, .inl ⟨by omega, by simp, by simp⟩⟩
theorem PIv.skip (h : PIv c s k f L) (hk : k < s.size) (hb : ¬ (s[k]'hk) = c) : PIv c s (k + 1) f L := by
  obtain ⟨h1, h2, h⟩ := h
  rcases h with ⟨h3, h4, h5⟩ | ⟨h3, _⟩
  · refine ⟨by omega, by omega, .inl ⟨by omega, h4, ?_⟩⟩
    have hd : k - f < (s.data.toList.drop f).length := by simp; omega
    have e : k + 1 - f = k - f + 1 := by omega
    rw [e, List.take_succ_eq_append_getElem hd]
    intro hm
    rcases List.mem_append.1 hm with hm | hm
    · exact h5 hm
    · simp only [List.mem_singleton, List.getElem_drop] at hm
      apply hb
      show s.data[k]'hk = _
      rw [hm]
      simp only [show f + (k - f) = k by omega]
      simp
  · omega
theorem PIv.cut (h : PIv c s k f L) (hk : k < s.size) (hb : (s[k]'hk) = c) : PIv c s (k + 1) (k + 1) (L ++ [(s.extract f k).data.toList]) := by
  obtain ⟨h1, h2, h⟩ := h
  rcases h with ⟨h3, h4, h5⟩ | ⟨h3, _⟩
  · refine ⟨by simp; omega, by omega, .inl ⟨by omega, ?_, by simp⟩⟩
    have hb' : s.data.toList[k]'(by simpa using hk) = c := by
      rw [← hb]
      rfl
    have e : s.data.toList.drop f = (s.data.toList.drop f).take (k - f) ++ c :: s.data.toList.drop (k + 1) := by
      have hd : k - f < (s.data.toList.drop f).length := by simp; omega
      have e1 := List.take_append_drop (k - f) (s.data.toList.drop f)
      rw [List.drop_eq_getElem_cons hd] at e1
      simp only [List.getElem_drop, List.drop_drop] at e1
      have e2 : f + (k - f) = k := by omega
      have e3 : f + (k - f + 1) = k + 1 := by omega
      simp only [e2, e3, hb'] at e1
      exact e1.symm
    rw [e, pieces_free c _ _ h5] at h4
    rw [← h4, Lib.extract_data]
    simp
  · omega
theorem PIv.last (h : PIv c s s.size f L) : PIv c s (s.size + 1) (s.size + 1) (L ++ [(s.extract f s.size).data.toList]) := by
  obtain ⟨h1, h2, h⟩ := h
  rcases h with ⟨h3, h4, h5⟩ | ⟨h3, _⟩
  · refine ⟨by simp; omega, by omega, .inr ⟨rfl, ?_⟩⟩
    rw [List.take_of_length_le (by simp)] at h5
    rw [pieces_one c _ h5] at h4
    rw [← h4, Lib.extract_data, List.take_of_length_le (by simp)]
  · omega
theorem PIv.fin (h : PIv c s (s.size + 1) f L) : L = pieces c s.data.toList := by
  obtain ⟨h1, h2, h⟩ := h
  rcases h with ⟨h3, h4, h5⟩ | ⟨_, h⟩
  · omega
  · exact h
theorem PIv.pre (h : PIv c s k f L) : ∃ R, pieces c s.data.toList = L ++ R := by
  obtain ⟨h1, h2, h⟩ := h
  rcases h with ⟨h3, h4, h5⟩ | ⟨_, h⟩
  · exact ⟨_, h4.symm⟩
  · exact ⟨[], by simp [h]⟩
end
theorem NoCw.pre {s : ByteArray} {k f : Nat} {L : List (List UInt8)} {x : List UInt8} (h : PIv 47 s k f (L ++ [x])) (hx : ∀ u : Nat, u < 18446744073709551616 → x ≠ Lib.decDigits u) : ∀ c, ¬ IsCw s.data.toList c := by
  obtain ⟨R, hR⟩ := h.pre
  exact NoCw.word hR L.length x (by simp) hx

def decs (ns : List Nat) : List (List UInt8) := ns.map Lib.decDigits
theorem decs_snoc (ns : List Nat) (u : Nat) : decs (ns ++ [u]) = decs ns ++ [Lib.decDigits u] := by simp [decs]
theorem extract_size (s : ByteArray) (f k : Nat) (hk : k ≤ s.size) : (s.extract f k).size ≤ s.size := by rw [ByteArray.size_extract]; omega

set_option maxRecDepth 100000 in
set_option maxHeartbeats 8000000 in
theorem r13Curve_any (s : ByteArray) (w : World) (hs : s.size ≤ 1000) : Calls Tryd.prog 20 #[.string s] w fun e w' => CrvIs s.data.toList e ∧ Chg NoChg w w' := by
  have HP := hide (PIv.start 47 s)
  have B0 := hide (Blk.new w #[.int .u64 0, .int .u64 0, .int .u64 0] 39)
  have C0 := hide ((Chg.refl NoChg w).alloc (.cells #[.int .u64 0, .int .u64 0, .int .u64 0] 39))
  go_enter Tryd.func20, Tryd.ntmps20
  go_wp2
  go_loopw [4, 5, 6] (fun v f i wr => ∃ (k m : Nat) (ns : List Nat), i = .int .i64 k ∧ f = .int .i64 m ∧ k ≤ s.size + 1 ∧ Hid (PIv 47 s k m (decs ns)) ∧ Hid (∀ n ∈ ns, n < 18446744073709551616) ∧ Hid (Own numC 1 22 wr v ns) ∧ Hid (∀ g, v.ownBlock = some g → w.heap.size < g) ∧ Hid (Chg NoChg w wr) ∧ Hid (Blk wr w.heap.size #[.int .u64 0, .int .u64 0, .int .u64 0] 39)) (fun _ _ i _ => s.size + 1 - (RowKit.intOf i).toNat)
  case atStart => exact ⟨0, 0, [], rfl, rfl, by omega, HP, hide (fun n hn => by simp at hn), hide (Own.nil _ _ _ _), hide (fun g h => by cases h), C0, B0⟩
  case round =>
    obtain ⟨k, m, ns, rfl, rfl, hk, HI, HN64, HO, HG, HC, HB⟩ := hrel
    have hmk := HI.out.2.1
    have hL := HI.out.1
    have hns : ns.length ≤ k := by simpa [decs] using hL
    clear hL
    by_cases hlt : k < s.size
    · have hlt2 : (k : Int) < (s.size : Int) := by omega
      by_cases hb : (s[k]'hlt) = 47
      · have hb1 : (((s[k]'hlt).toNat : Int) != 47) = false := by rw [hb]; rfl
        have HI2 := hide (HI.out.cut hlt hb)
        have HD := hide (r10Digits_any (s.extract m k) wr (by have := extract_size s m k (by omega); omega))
        have k1 : (m : Int) ≤ (k : Int) := by omega
        have k2 : (k : Int) ≤ (s.size : Int) := by omega
        go_wp2_with fail
        refine HD.out.mono ?_
        rintro e wa ⟨hd, ca⟩
        have HCA := hide (HC.out.trans' ca)
        have HBA := hide (ca.blk HB.out (fun h => h))
        have HOA := hide (HO.out.keep ca (fun _ _ h => h))
        clear ca HO HC HB
        rcases hd with ⟨u, hu, hx, rfl⟩ | ⟨hno, mm, hm, rfl⟩
        · have HI3 : Hid (PIv 47 s (k + 1) (k + 1) (decs (ns ++ [u]))) := hide (by rw [decs_snoc, ← hx]; exact HI2.out)
          have HN2 : Hid (∀ n ∈ ns ++ [u], n < 18446744073709551616) := hide (fun n hn => by
            rcases List.mem_append.1 hn with h | h
            · exact HN64.out n h
            · simp at h; subst h; exact hu)
          clear hu hx HI2
          go_wp2_with (at_builtin; refine wpList_append_rec numR rfl (.tmp 36) (.tmp 38) rfl _ ns rfl (HOA.out.keep ((Chg.refl NoChg _).alloc _) (fun _ _ h => h)) _ _ [u] rfl ?a1 ?a2 ?a3 ?a4 ?a5)
          try (case a1 => intro h; cases h)
          case a2 => exact Blk.rowN wa _ 22
          case a3 => (try unfold maxLen); (try simp only [List.length_cons, List.length_nil]); omega
          case a4 => (try simp only [List.length_cons, List.length_nil]); omega
          intro v2 w2 hown hcc hv
          have HO2 := hide hown
          have HC2 := hide ((HCA.out.alloc _).trans hcc (fun j hj => .inr (by have := HG.out j hj; omega)))
          have HB2 := hide (hcc.blk (HBA.out.alloc _) (fun hk => by have := HG.out _ hk; omega))
          have HG2 : Hid (∀ g, v2.ownBlock = some g → w.heap.size < g) := hide (fun g hg => by
            have h1 := HBA.out.lt
            rcases hv with e | e
            · rw [e] at hg; exact HG.out g hg
            · rw [e] at hg
              have := Option.some.inj hg
              omega)
          clear hown hcc hv HOA HCA HBA HG
          go_wp2
          go_roundw
          case rel => exact ⟨k + 1, k + 1, _, by go_num, by go_num, by omega, HI3, HN2, HO2, HG2, HC2, HB2⟩
          case measure => first | (simp [RowKit.intOf]; omega) | simp [RowKit.intOf]
        · have HN := hide (NoCw.pre HI2.out hno)
          clear hno hm HI2
          obtain ⟨b0, b1, b2⟩ := Crv.cells3 (w' := wa) (f := 0) (l := 0) (r := 0) HBA.out (Chg.refl _ _)
          have f0 := Blk.frozen HBA.out 0
          have f1 := Blk.frozen HBA.out 1
          have f2 := Blk.frozen HBA.out 2
          have z3 := Blk.lt HBA.out
          go_wp2
          refine bodyPost_ret (v := .tuple #[.agg #[.int .u64 0, .int .u64 0, .int .u64 0], .int .i64 2]) (by simp [results, Tryd.results20, go_sem, b0, b1, b2]) rfl ⟨.inr ⟨HN.out, rfl⟩, ?_⟩
          have C2 := HCA.out
          (repeat' (first | (with_reducible exact Chg.refl _ _) | (with_reducible assumption) | (with_reducible refine Chg.alloc ?_ _) | (with_reducible refine Chg.drewN ?_ _) | (with_reducible refine Chg.drew ?_) | (with_reducible refine Chg.setCell ?_ _ ?_) | (apply Or.inl; with_reducible rfl) | (apply Or.inl; simp; done) | (apply Or.inr; simp; done) | (apply Or.inr; simp; omega)))
      · have HI2 := hide (HI.out.skip hlt hb)
        have hb1 : (((s[k]'hlt).toNat : Int) != 47) = true := by
          have : ¬ (s[k]'hlt).toNat = 47 := fun e => hb (UInt8.toNat_inj.1 (by rw [e]; rfl))
          simp
          omega
        go_wp2
        go_roundw
        case rel => exact ⟨k + 1, m, ns, by go_num, rfl, by omega, HI2, HN64, HO, HG, HC, HB⟩
        case measure => simp [RowKit.intOf]; omega
    · by_cases he : k = s.size
      · subst he
        have hlt2 : ¬ (s.size : Int) < (s.size : Int) := by omega
        have HI2 := hide HI.out.last
        have HD := hide (r10Digits_any (s.extract m s.size) wr (by have := extract_size s m s.size (by omega); omega))
        have k1 : (m : Int) ≤ (s.size : Int) := by omega
        have k2 : (s.size : Int) ≤ (s.size : Int) := by omega
        go_wp2_with fail
        refine HD.out.mono ?_
        rintro e wa ⟨hd, ca⟩
        have HCA := hide (HC.out.trans' ca)
        have HBA := hide (ca.blk HB.out (fun h => h))
        have HOA := hide (HO.out.keep ca (fun _ _ h => h))
        clear ca HO HC HB
        rcases hd with ⟨u, hu, hx, rfl⟩ | ⟨hno, mm, hm, rfl⟩
        · have HI3 : Hid (PIv 47 s (s.size + 1) (s.size + 1) (decs (ns ++ [u]))) := hide (by rw [decs_snoc, ← hx]; exact HI2.out)
          have HN2 : Hid (∀ n ∈ ns ++ [u], n < 18446744073709551616) := hide (fun n hn => by
            rcases List.mem_append.1 hn with h | h
            · exact HN64.out n h
            · simp at h; subst h; exact hu)
          clear hu hx HI2
          go_wp2_with (at_builtin; refine wpList_append_rec numR rfl (.tmp 36) (.tmp 38) rfl _ ns rfl (HOA.out.keep ((Chg.refl NoChg _).alloc _) (fun _ _ h => h)) _ _ [u] rfl ?b1 ?b2 ?b3 ?b4 ?b5)
          try (case b1 => intro h; cases h)
          case b2 => exact Blk.rowN wa _ 22
          case b3 => (try unfold maxLen); (try simp only [List.length_cons, List.length_nil]); omega
          case b4 => (try simp only [List.length_cons, List.length_nil]); omega
          intro v2 w2 hown hcc hv
          have HO2 := hide hown
          have HC2 := hide ((HCA.out.alloc _).trans hcc (fun j hj => .inr (by have := HG.out j hj; omega)))
          have HB2 := hide (hcc.blk (HBA.out.alloc _) (fun hk => by have := HG.out _ hk; omega))
          have HG2 : Hid (∀ g, v2.ownBlock = some g → w.heap.size < g) := hide (fun g hg => by
            have h1 := HBA.out.lt
            rcases hv with e | e
            · rw [e] at hg; exact HG.out g hg
            · rw [e] at hg
              have := Option.some.inj hg
              omega)
          clear hown hcc hv HOA HCA HBA HG
          go_wp2
          go_roundw
          case rel => exact ⟨s.size + 1, s.size + 1, _, by go_num, by go_num, by omega, HI3, HN2, HO2, HG2, HC2, HB2⟩
          case measure => first | (simp [RowKit.intOf]; omega) | simp [RowKit.intOf]
        · have HN := hide (NoCw.pre HI2.out hno)
          clear hno hm HI2
          obtain ⟨b0, b1, b2⟩ := Crv.cells3 (w' := wa) (f := 0) (l := 0) (r := 0) HBA.out (Chg.refl _ _)
          have f0 := Blk.frozen HBA.out 0
          have f1 := Blk.frozen HBA.out 1
          have f2 := Blk.frozen HBA.out 2
          have z3 := Blk.lt HBA.out
          go_wp2
          refine bodyPost_ret (v := .tuple #[.agg #[.int .u64 0, .int .u64 0, .int .u64 0], .int .i64 2]) (by simp [results, Tryd.results20, go_sem, b0, b1, b2]) rfl ⟨.inr ⟨HN.out, rfl⟩, ?_⟩
          have C2 := HCA.out
          (repeat' (first | (with_reducible exact Chg.refl _ _) | (with_reducible assumption) | (with_reducible refine Chg.alloc ?_ _) | (with_reducible refine Chg.drewN ?_ _) | (with_reducible refine Chg.drew ?_) | (with_reducible refine Chg.setCell ?_ _ ?_) | (apply Or.inl; with_reducible rfl) | (apply Or.inl; simp; done) | (apply Or.inr; simp; done) | (apply Or.inr; simp; omega)))
      · obtain rfl : k = s.size + 1 := by omega
        have HF := hide HI.out.fin
        have hlx : ns.length = (pieces 47 s.data.toList).length := by rw [← HF.out]; simp [decs]
        obtain ⟨a4, cap4, rfl, hcell4⟩ := own_cellN HO.out
        by_cases h3 : ns.length = 3
        · obtain ⟨u0, u1, u2, rfl⟩ : ∃ u0 u1 u2, ns = [u0, u1, u2] := by
            match ns, h3 with
            | [x0, x1, x2], _ => exact ⟨x0, x1, x2, rfl⟩
          obtain ⟨g4, o4, rfl, hc4⟩ := hcell4 (by simp)
          have n0 : wr.cell? ⟨g4, o4, none⟩ = some (.int .u64 (u0 : Int)) := hc4 0 (by simp)
          have n1 : wr.cell? ⟨g4, o4 + 1, none⟩ = some (.int .u64 (u1 : Int)) := hc4 1 (by simp)
          have n2 : wr.cell? ⟨g4, o4 + 2, none⟩ = some (.int .u64 (u2 : Int)) := hc4 2 (by simp)
          have HP := hide (IsCw.mk (l := s.data.toList) (c := ⟨u0, u1, u2⟩) HF.out.symm ⟨HN64.out u0 (by simp), HN64.out u1 (by simp), HN64.out u2 (by simp)⟩)
          obtain ⟨b0, b1, b2⟩ := Crv.cells3 (w' := wr) (f := 0) (l := 0) (r := 0) HB.out (Chg.refl _ _)
          have f0 := Blk.frozen HB.out 0
          have f1 := Blk.frozen HB.out 1
          have f2 := Blk.frozen HB.out 2
          have z3 := Blk.lt HB.out
          clear hcell4 hc4 hlx h3 HI
          simp only [List.length_cons, List.length_nil, Nat.zero_add, Nat.reduceAdd]
          go_wp2
          go_region
          all_goals go_wp2
          all_goals refine bodyPost_ret (v := .tuple #[.agg #[.int .u64 (u0 : Int), .int .u64 (u1 : Int), .int .u64 (u2 : Int)], .int .i64 0]) (by simp [results, Tryd.results20, go_sem, b0, b1, b2]) rfl ⟨.inl ⟨_, HP.out, rfl⟩, ?_⟩
          all_goals
            have C2 := HC.out
            (repeat' (first | (with_reducible exact Chg.refl _ _) | (with_reducible assumption) | (with_reducible refine Chg.alloc ?_ _) | (with_reducible refine Chg.drewN ?_ _) | (with_reducible refine Chg.drew ?_) | (with_reducible refine Chg.setCell ?_ _ ?_) | (apply Or.inl; with_reducible rfl) | (apply Or.inl; simp; done) | (apply Or.inr; simp; done) | (apply Or.inr; simp; omega)))
        · have h3' : ((ns.length : Int) != 3) = true := by simp; omega
          have HN := hide (NoCw.words (l := s.data.toList) (by omega))
          clear hcell4 hlx h3 HI
          obtain ⟨b0, b1, b2⟩ := Crv.cells3 (w' := wr) (f := 0) (l := 0) (r := 0) HB.out (Chg.refl _ _)
          have f0 := Blk.frozen HB.out 0
          have f1 := Blk.frozen HB.out 1
          have f2 := Blk.frozen HB.out 2
          have z3 := Blk.lt HB.out
          go_wp2
          refine bodyPost_ret (v := .tuple #[.agg #[.int .u64 0, .int .u64 0, .int .u64 0], .int .i64 2]) (by simp [results, Tryd.results20, go_sem, b0, b1, b2]) rfl ⟨.inr ⟨HN.out, rfl⟩, ?_⟩
          have C2 := HC.out
          (repeat' (first | (with_reducible exact Chg.refl _ _) | (with_reducible assumption) | (with_reducible refine Chg.alloc ?_ _) | (with_reducible refine Chg.drewN ?_ _) | (with_reducible refine Chg.drew ?_) | (with_reducible refine Chg.setCell ?_ _ ?_) | (apply Or.inl; with_reducible rfl) | (apply Or.inl; simp; done) | (apply Or.inr; simp; done) | (apply Or.inr; simp; omega)))
end Go.Proofs.YtofgajlpdnokdaaDoor
