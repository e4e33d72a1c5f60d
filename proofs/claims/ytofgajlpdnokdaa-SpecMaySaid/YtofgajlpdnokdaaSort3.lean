/- The keys of a map of at most two. -/
import Derived.Test.YtofgajlpdnokdaaSort2
namespace Go.Proofs.Ytofgajlpdnokdaa
set_option linter.unusedVariables false
open Go.RowKit Go.Maps Go.Shelf

theorem ownsRow_slice {w : World} {base : Nat} {e : TypeId} {sz : Nat} {v : Value} {n : Nat} {xs : List Value} (h : w.ownsRow base e sz v n xs) : ∃ a cap, v = .slice a n cap := by
  rcases h.2 with ⟨rfl, h0⟩ | ⟨g, cap, cur, rfl, _⟩
  · exact ⟨none, 0, by rw [h0]⟩
  · exact ⟨_, cap, rfl⟩

theorem ownsRow_two {w : World} {base : Nat} {e : TypeId} {v : Value} {x y : Value} (h : w.ownsRow base e 1 v 2 [x, y]) : ∃ g cap cs, v = .slice (some ⟨g, 0, none⟩) 2 cap ∧ base ≤ g ∧ Blk w g (x :: y :: cs).toArray e ∧
    ∀ (w' : World) (x' y' : Value), Blk w' g (x' :: y' :: cs).toArray e → w'.ownsRow base e 1 v 2 [x', y'] := by
  rcases h.2 with ⟨_, h0⟩ | ⟨g, cap, cur, rfl, hb, hh, hn, hc, hs, ht⟩
  · cases h0
  · have e1 : cur.toList = x :: y :: cur.toList.drop 2 := by
      have := List.take_append_drop 2 cur.toList
      rw [Nat.mul_one] at ht
      rw [ht] at this
      exact this.symm
    refine ⟨g, cap, cur.toList.drop 2, rfl, hb, ?_, fun w' x' y' hw => ?_⟩
    · unfold Blk
      rw [hh, ← e1]
    · refine ⟨rfl, .inr ⟨g, cap, (x' :: y' :: cur.toList.drop 2).toArray, rfl, hb, hw, hn, hc, ?_, ?_⟩⟩
      · have h2 : cur.size = cap * 1 := hs
        simp
        omega
      · simp

theorem slSorted_few {H : Type} (Bm b nn : Nat) (D0 : DataW H) {R : Value → Option (DataW H × List MemPlace)} (w : World) (hmax : Maps.size D0 < maxLen) (hbytes : Maps.size D0 * 8 + 8 ≤ 140737488355328)
    (hfew : ∀ ss : List Int, ss.Nodup → (∀ x, x ∈ ss ↔ has D0 (.int .u64 x) = true) → ss.length ≤ 2)
    (hBm : Bm < w.heap.size) (hm : w.cell? ⟨Bm, 0, none⟩ = some (.map (some b))) (hown : w.ownsMap Try.prog 22 R b nn D0) :
    Calls Try.prog 31 #[.func (.func 41) #[] #[.pointer (some ⟨Bm, 0, none⟩)]] w fun e W' => ∃ (v : Value) (ss : List Int), e = .returned v ∧ W'.ownsRow w.heap.size 22 1 v ss.length (ss.map (Value.int .u64)) ∧ ss.length ≤ 2 ∧ (∀ x, x ∈ ss ↔ has D0 (.int .u64 x) = true) ∧ Below w.heap.size w W' := by
  have C := hide (slCollect_any Bm b nn D0 w hmax hbytes hBm hm hown)
  clear hmax hbytes hBm hm hown
  go_enter Try.func31, Try.ntmps31
  go_wp2_with fail
  refine (C.out).mono ?_
  rintro e w1 ⟨v, ss, rfl, h1, h2, h3, h4⟩
  have hl := hfew ss h2 h3
  obtain ⟨a, cap, rfl⟩ := ownsRow_slice h1
  match ss, hl with
  | [], _ =>
    have S := hide (slSort_few a cap 0 (by omega) w1)
    have HH := hide (And.intro h1 (And.intro h3 h4))
    clear h1 h2 h3 h4
    go_wp2_with fail
    refine (S.out).mono ?_
    rintro e w2 ⟨⟨r, rfl⟩, rfl⟩
    go_wp2
    go_ret
    exact ⟨_, [], rfl, HH.out.1, by simp, HH.out.2.1, HH.out.2.2⟩
  | [x], _ =>
    have S := hide (slSort_few a cap 1 (by omega) w1)
    have HH := hide (And.intro h1 (And.intro h3 h4))
    clear h1 h2 h3 h4
    go_wp2_with fail
    refine (S.out).mono ?_
    rintro e w2 ⟨⟨r, rfl⟩, rfl⟩
    go_wp2
    go_ret
    exact ⟨_, [x], rfl, HH.out.1, by simp, HH.out.2.1, HH.out.2.2⟩
  | [x, y], _ =>
    obtain ⟨g, cap', cs, hv, hb, hB, hback⟩ := ownsRow_two h1
    injection hv with e1 e2 e3
    subst e1 e3
    have S := hide (slSort_two g cap x y _ cs w1 hB)
    have HH := hide (And.intro hback (And.intro h3 (And.intro h4 hb)))
    clear h1 h2 h3 h4 hB hback hb
    go_wp2_with fail
    refine (S.out).mono ?_
    rintro e w2 ⟨⟨r, rfl⟩, s1, s2⟩
    have HS := hide (And.intro s1 s2)
    clear s1 s2
    go_wp2
    go_ret
    refine ⟨_, [min x y, max x y], rfl, HH.out.1 _ _ _ HS.out.1, by simp, fun z => ?_, ?_⟩
    · rw [← HH.out.2.1 z]
      simp only [List.mem_cons, List.not_mem_nil, or_false]
      omega
    · refine HH.out.2.2.1.trans (HS.out.2.toBelow (B := w.heap.size) HH.out.2.2.1.size (fun k hk => by have := HH.out.2.2.2; have hk2 : k = g := hk; omega))
end Go.Proofs.Ytofgajlpdnokdaa
