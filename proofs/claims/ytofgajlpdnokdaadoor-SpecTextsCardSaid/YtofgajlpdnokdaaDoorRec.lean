/- Slices of records: append and copy, in words on blocks. Plain laws over any program. -/
import Derived.Test.YtofgajlpdnokdaaDoorHeap
import Derived.Maps.AppendAt
import Derived.Laws.AppendOwnNone
import Derived.Laws.CopyRow
import Derived.Laws.IdiomCopy
namespace Go.Proofs.YtofgajlpdnokdaaDoor
set_option linter.unusedVariables false
open Go.RowKit

/-- Slices t of elements e, which are records of sz cells. -/
structure RecT {T : Type} (P : Program) (cells : T → List Value) (sz : Nat) (t e : TypeId) (bytes : Nat) (z0 : T) : Prop where
  ht : P.underlying t = some (.slice e)
  hi : ∃ i z, P.info? e = some i ∧ i.zero = some z ∧ i.size = sz ∧ i.bytes = bytes ∧ z.cells = (cells z0).toArray
  pos : 0 < sz
  hc : ∀ x, (cells x).length = sz
  one : ∀ x, ∀ u ∈ cells x, u.oneCell' = true

theorem info_rec {P : Program} {e : TypeId} {zc : Array Value} {sz bytes : Nat} (h : (P.info? e).map (fun i => (i.zero.map (fun z => z.cells), i.size, i.bytes)) = some (some zc, sz, bytes)) :
    ∃ i z, P.info? e = some i ∧ i.zero = some z ∧ i.size = sz ∧ i.bytes = bytes ∧ z.cells = zc := by
  cases hi : P.info? e with
  | none => rw [hi] at h; cases h
  | some i =>
    rw [hi] at h
    simp only [Option.map_some, Option.some.injEq, Prod.mk.injEq] at h
    obtain ⟨h1, h2, h3⟩ := h
    cases hz : i.zero with
    | none => rw [hz] at h1; cases h1
    | some z =>
      rw [hz] at h1
      exact ⟨i, z, rfl, hz, h2, h3, by simpa using h1⟩

/-- The slice v holds just these records, and begins at the head of its own block (or is nil). -/
def Own {T : Type} (cells : T → List Value) (sz : Nat) (e : TypeId) (w : World) (v : Value) (l : List T) : Prop :=
  w.ownsRow 0 e sz v l.length (flatC cells l)

section
variable {T : Type} {P : Program} {cells : T → List Value} {sz : Nat} {t e : TypeId} {bytes : Nat} {z0 : T}

theorem flatC_one (hR : RecT P cells sz t e bytes z0) (l : List T) : ∀ u ∈ flatC cells l, u.oneCell' = true := by
  intro u hu
  obtain ⟨x, _, hx⟩ := List.mem_flatMap.1 hu
  exact hR.one x u hx

theorem Own.nil (cells : T → List Value) (sz : Nat) (e : TypeId) (w : World) : Own cells sz e w (.slice none 0 0) ([] : List T) := ⟨by simp [flatC], .inl ⟨rfl, rfl⟩⟩

theorem Own.keep {w w1 : World} {v : Value} {l : List T} {S : Nat → Prop} (h : Own cells sz e w v l) (hc : Chg S w w1) (hS : ∀ k, v.ownBlock = some k → ¬ S k) : Own cells sz e w1 v l := by
  obtain ⟨h0, h⟩ := h
  refine ⟨h0, ?_⟩
  rcases h with h | ⟨g, cap, cur, rfl, hg, hh, r⟩
  · exact .inl h
  · exact .inr ⟨g, cap, cur, rfl, hg, hc.heap hh (hS g rfl), r⟩

theorem Own.lt {w : World} {v : Value} {l : List T} (h : Own cells sz e w v l) : ∀ k, v.ownBlock = some k → k < w.heap.size := by
  obtain ⟨_, h⟩ := h
  rcases h with ⟨rfl, _⟩ | ⟨g, cap, cur, rfl, hg, hh, r⟩
  · intro k hk; cases hk
  · intro k hk
    have : g = k := by simpa [Value.ownBlock] using hk
    subst this
    exact (Array.getElem?_eq_some_iff.1 hh).1

/-- As an argument: where the records lie. -/
theorem Own.row (hc : ∀ x, (cells x).length = sz) {w : World} {v : Value} {l : List T} (h : Own cells sz e w v l) : ∃ a cap, v = .slice a l.length cap ∧ l.length ≤ cap ∧ (a = none → cap = 0) ∧ RowAt cells sz w a l := by
  obtain ⟨_, h⟩ := h
  rcases h with ⟨rfl, hl⟩ | ⟨g, cap, cur, rfl, hg, hh, hn, hcap, hsz, htake⟩
  · have : l = [] := List.eq_nil_of_length_eq_zero hl
    subst this
    exact ⟨none, 0, rfl, Nat.le_refl _, fun _ => rfl, fun i hi => absurd hi (by simp)⟩
  · refine ⟨some ⟨g, 0, none⟩, cap, rfl, hn, by simp, fun i hi => ⟨g, 0, rfl, fun j u hu => ?_⟩⟩
    have hj : j < sz := by
      have := (List.getElem?_eq_some_iff.1 hu).1
      rw [hc] at this
      exact this
    have h1 : (flatC cells l)[i * sz + j]? = some u := by rw [flatC_get hc l i j hi hj]; exact hu
    have hlt : i * sz + j < l.length * sz := by
      have : (i + 1) * sz ≤ l.length * sz := Nat.mul_le_mul_right _ hi
      rw [Nat.add_mul] at this
      omega
    rw [← htake, List.getElem?_take, if_pos hlt] at h1
    simp only [World.cell?, hh, Nat.zero_add]
    simpa using h1

theorem Own.cap {w : World} {v : Value} {l : List T} (h : Own cells sz e w v l) : l.length ≤ maxLen := by
  obtain ⟨_, h⟩ := h
  rcases h with ⟨rfl, hl⟩ | ⟨g, cap, cur, rfl, hg, hh, hn, hcap, hsz, htake⟩
  · rw [hl]; exact Nat.zero_le _
  · omega

theorem row_news (hc : ∀ x, (cells x).length = sz) {w : World} {g o : Nat} {l : List T} (h : RowAt cells sz w (some ⟨g, o, none⟩) l) (hp : 0 < sz) :
    ∀ j u, (flatC cells l)[j]? = some u → w.cell? ((⟨g, o, none⟩ : Addr).add j) = some u := by
  intro j u hu
  have hj : j < l.length * sz := by
    have := (List.getElem?_eq_some_iff.1 hu).1
    rwa [flatC_length hc] at this
  have hi : j / sz < l.length := by rw [Nat.div_lt_iff_lt_mul hp]; exact hj
  have hm := Nat.mod_lt j hp
  have hd := Nat.div_add_mod j sz
  rw [Nat.mul_comm] at hd
  obtain ⟨g', o', he, hcell⟩ := h (j / sz) hi
  simp only [Option.some.injEq, Addr.mk.injEq] at he
  obtain ⟨rfl, rfl, _⟩ := he
  have := hcell (j % sz) u (by
    rw [← flatC_get hc l (j / sz) (j % sz) hi hm, hd]
    exact hu)
  rw [Nat.add_assoc, hd] at this
  rw [← this]
  unfold Addr.add
  split
  · rename_i h0; rw [h0]; rfl
  · rfl

variable {ops : Array Oper} {rest : List Oper} {o : Oper} {a : Act} {w : World} {Q : Exit → Act → World → Prop}

/-- append(v, records...) -/
theorem wpList_append_rec (hR : RecT P cells sz t e bytes z0) (hgd : o.guard = none) (s x : Operand)
    (ho : o.op = .call { callee := .builtin .append, args := #[s, x], argTypes := #[t, t] })
    (v : Value) (l : List T) (hs : a.eval s = v) (hown : Own cells sz e w v l)
    (sa : Option Addr) (c : Nat) (l2 : List T) (hx : a.eval x = .slice sa l2.length c) (hc0 : sa = none → c = 0) (hrow : RowAt cells sz w sa l2)
    (h63 : l.length + l2.length ≤ maxLen) (hbytes : (l.length + l2.length) * bytes ≤ 140737488355328)
    (h : ∀ v' w', Own cells sz e w' v' (l ++ l2) → Chg (fun k => v.ownBlock = some k) w w' → (v'.ownBlock = v.ownBlock ∨ v'.ownBlock = some w.heap.size) → wpList P ops Q rest (a.put o.dst v') w') :
    wpList P ops Q (o :: rest) a w := by
  obtain ⟨i, z, hi, hz, hsz, hby, hzc⟩ := hR.hi
  have hzs : z.cells.size = sz := by rw [hzc]; simp [hR.hc]
  have fin : ∀ v' w', w'.ownsRow 0 e sz v' (l.length + l2.length) (flatC cells l ++ flatC cells l2) → w.grownBy w' v.ownBlock → (v'.ownBlock = v.ownBlock ∨ v'.ownBlock = some w.heap.size) → wpList P ops Q rest (a.put o.dst v') w' := by
    intro v' w' h1 h2 h3
    refine h v' w' ?_ ((Chg.refl _ _).grown h2 fun k hk => .inl hk) h3
    unfold Own
    rw [flatC_append, List.length_append]
    exact h1
  by_cases hl2 : l2 = []
  · subst hl2
    cases sa with
    | none =>
      obtain rfl := hc0 rfl
      refine wpList_append_own_none hgd s x t ho 0 e i sz hR.ht hi v l.length (flatC cells l) hs hown hx ?_
      exact h v w (by simpa using hown) (Chg.refl _ _) (.inl rfl)
    | some ad =>
      refine wpList_append_own_at _ hgd s x t ho 0 e i z sz bytes hR.ht hi hz hsz hby hzs hR.pos v l.length (flatC cells l) hs hown ad 0 c [] hx (by simp) (by simp) (by simp) (by simpa using h63) (by simpa using hbytes) (Nat.zero_le _) ?_
      intro v' w' h1 h2 _ h3
      exact fin v' w' (by simpa [flatC] using h1) h2 h3
  · obtain ⟨g, off, rfl, _⟩ := hrow 0 (List.length_pos_iff.2 hl2)
    refine wpList_append_own_at _ hgd s x t ho 0 e i z sz bytes hR.ht hi hz hsz hby hzs hR.pos v l.length (flatC cells l) hs hown ⟨g, off, none⟩ l2.length c (flatC cells l2) hx
      (flatC_length hR.hc l2) (row_news hR.hc hrow hR.pos) (flatC_one hR l2) h63 hbytes (Nat.zero_le _) ?_
    intro v' w' h1 h2 _ h3
    exact fin v' w' h1 h2 h3

/-- copy(dst, src) of records: dst begins at record 'off' of block g. -/
theorem wpList_copy_rec (hR : RecT P cells sz t e bytes z0) (hgd : o.guard = none) (d s : Operand)
    (ho : o.op = .call { callee := .builtin .copy, args := #[d, s], argTypes := #[t, t] })
    (dp sp : Option Addr) (dLen dCap sLen sCap : Nat) (hd : a.eval d = .slice dp dLen dCap) (hs : a.eval s = .slice sp sLen sCap)
    (g off : Nat) (L : List T) (te : TypeId) (hg : RowBlk cells w g L te) (news : List T) (hn : news.length = Nat.min sLen dLen)
    (hdp : 0 < news.length → dp = some ⟨g, off * sz, none⟩) (hsp : RowAt cells sz w sp news) (hfit : off + news.length ≤ L.length)
    (h : ∀ w', RowBlk cells w' g (L.take off ++ news ++ L.drop (off + news.length)) te → Chg (fun k => k = g) w w' → wpList P ops Q rest (a.put o.dst (.int .i64 news.length)) w') :
    wpList P ops Q (o :: rest) a w := by
  obtain ⟨i, z, hi, hz, hsz, hby, hzs⟩ := hR.hi
  refine wpList_plain hgd fun K hK => ?_
  by_cases h0 : news = []
  · subst h0
    have hmin : Nat.min sLen dLen = 0 := by simpa using hn.symm
    have hl : ∀ (x : Addr), (loadCells x 0).run P w = .ok #[] w := fun x => by simpa using run_loadCells_list (P := P) w x [] (by simp)
    have hrun : (Builtin.copy_ #[t, t] o.type #[.slice dp dLen dCap, .slice sp sLen sCap]).run P w = .ok (goInt 0) w := by
      cases dp <;> cases sp <;> simp [Builtin.copy_, run_underlying hR.ht, Builtin.lenOf, Builtin.firstCells, sizeOf, typeInfo, hi, hmin, storeCells, hl]
    unfold Oper.wp
    simp [execOp, ho, resolve, invoke, builtin, hd, hs, hrun, Result.andThen]
    exact hK _ _ (h w (by simpa using hg) (Chg.refl _ _))
  · have hpos := List.length_pos_iff.2 h0
    obtain ⟨g2, o2, rfl, _⟩ := hsp 0 hpos
    obtain rfl := hdp hpos
    have hload := run_loadCells_list (P := P) w ⟨g2, o2, none⟩ (flatC cells news) (row_news hR.hc hsp hR.pos)
    rw [flatC_length hR.hc] at hload
    have hLl := flatC_length hR.hc L
    have hmul : (off + news.length) * sz ≤ L.length * sz := Nat.mul_le_mul_right _ hfit
    rw [Nat.add_mul] at hmul
    have hst := run_storeCells_at P g (off * sz) te (flatC cells news) 0 (flatC cells L).toArray w hg (by rw [flatC_length hR.hc]; simp [hLl]; omega) (flatC_one hR news)
    have hrun : (Builtin.copy_ #[t, t] o.type #[.slice (some ⟨g, off * sz, none⟩) dLen dCap, .slice (some ⟨g2, o2, none⟩) sLen sCap]).run P w =
        .ok (goInt news.length) (w.setRow g ((flatC cells L).take (off * sz) ++ flatC cells news ++ (flatC cells L).drop (off * sz + (flatC cells news).length)).toArray) := by
      simp only [Nat.add_zero] at hst
      simp [Builtin.copy_, run_underlying hR.ht, Builtin.lenOf, Builtin.firstCells, sizeOf, typeInfo, hi, hsz, ← hn, hload, hst]
    unfold Oper.wp
    simp [execOp, ho, resolve, invoke, builtin, hd, hs, hrun, Result.andThen]
    refine hK _ _ (h _ ?_ ⟨rfl, rfl, rfl, by simp [World.setRow], fun k _ hk => setRow_other w g k _ hk⟩)
    have e1 : (flatC cells L).take (off * sz) ++ flatC cells news ++ (flatC cells L).drop (off * sz + (flatC cells news).length) = flatC cells (L.take off ++ news ++ L.drop (off + news.length)) := by
      rw [flatC_append, flatC_append, flatC_take hR.hc, flatC_length hR.hc, ← Nat.add_mul]
      congr 1
      have e3 : flatC cells L = flatC cells (L.take (off + news.length)) ++ flatC cells (L.drop (off + news.length)) := by rw [← flatC_append, List.take_append_drop]
      rw [e3, List.drop_append, List.drop_of_length_le (by rw [flatC_length hR.hc, List.length_take, Nat.min_eq_left hfit]; exact Nat.le_refl _), flatC_length hR.hc, List.length_take, Nat.min_eq_left hfit]
      simp
    rw [← List.append_assoc, e1]
    exact setRow_heap w g _ _ te _ hg

theorem madeCells_flat (hc : ∀ x, (cells x).length = sz) (z0 : T) (n : Nat) : madeCells (cells z0).toArray (n * sz) = (flatC cells (List.replicate n z0)).toArray := by
  apply Array.ext
  · simp [madeCells, flatC_length hc]
  · intro i h1 h2
    have hi : i < n * sz := by simpa [madeCells] using h1
    have hp : 0 < sz := by
      rcases Nat.eq_zero_or_pos sz with h | h
      · subst h; simp at hi
      · exact h
    have hq : i / sz < n := by rw [Nat.div_lt_iff_lt_mul hp]; exact hi
    have hm := Nat.mod_lt i hp
    have hd := Nat.div_add_mod i sz
    rw [Nat.mul_comm] at hd
    have hg := flatC_get hc (List.replicate n z0) (i / sz) (i % sz) (by simpa using hq) hm
    rw [hd] at hg
    simp only [List.getElem_replicate] at hg
    have hm' : i % sz < (cells z0).length := by rw [hc]; exact hm
    rw [List.getElem?_eq_getElem hm'] at hg
    have e2 := (List.getElem?_eq_some_iff.1 hg).2
    simp only [madeCells, Array.getElem_map, Array.getElem_range, List.size_toArray, hc, List.getElem_toArray]
    rw [e2]
    simp [hm']

/-- make([]T, n) -/
theorem run_make_rec (hR : RecT P cells sz t e bytes z0) (n : Nat) (hb : bytes * n ≤ 281474976710656) (hn : n ≤ 9223372036854775807) (w : World) :
    (Instr.makeSlice t (.int .i64 (n : Int)) (.int .i64 (n : Int))).run P w = .ok (.slice (some ⟨w.heap.size, 0, none⟩) n n) (w.alloc (.cells (flatC cells (List.replicate n z0)).toArray e)) := by
  obtain ⟨i, z, hi, hz, hsz, hby, hzc⟩ := hR.hi
  have hb' : (i.bytes : Int) * (n : Int) ≤ 281474976710656 := by
    have h : ((bytes * n : Nat) : Int) ≤ 281474976710656 := by omega
    rw [hby]
    rwa [Int.natCast_mul] at h
  have hr := run_make (P := P) w t e i z hR.ht hi hz .i64 .i64 n n (by omega) (by omega) hb' (by omega)
  simp only [Int.toNat_natCast] at hr
  rw [hr, hzc, hsz, madeCells_flat hR.hc]
end
end Go.Proofs.YtofgajlpdnokdaaDoor
