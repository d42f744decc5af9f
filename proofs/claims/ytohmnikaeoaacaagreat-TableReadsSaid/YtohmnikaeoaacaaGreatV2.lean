/- An abstract evaluator of the program's code, and that it is right: part 2. -/
import Derived.Laws.CopyRow
import Derived.Laws.Externs
import Derived.Laws.IdiomCopy
import Derived.Lib.AppendZeros
import Derived.Maps.AppendAt
import Derived.WideKeyRuns
import Derived.Test.YtohmnikaeoaacaaGreatV1
set_option linter.unusedSimpArgs false
set_option linter.unusedVariables false
/- Stores; rows cut back. -/
namespace Go.Vm
open Go
section
variable {P : Program} {μ : Place} {M : Mem} {w : World} {H : Heap} {a : Act} {env : List AV}
def setBlk (w : World) (B : Nat) (o : Obj) : World := { w with heap := w.heap.setIfInBounds B o }
theorem setBlk_same (w : World) {B : Nat} (o : Obj) (h : B < w.heap.size) : (setBlk w B o).heap[B]? = some o := by simp [setBlk, h]
theorem setBlk_other (w : World) {B C : Nat} (o : Obj) (h : C ≠ B) : (setBlk w B o).heap[C]? = w.heap[C]? := by simp [setBlk, Array.getElem?_setIfInBounds_ne (Ne.symm h)]
theorem setCell_blk {w : World} {B : Nat} {vs : Array Value} {ty : TypeId} (h : w.heap[B]? = some (.cells vs ty (0, 0))) (o : Nat) (v : Value) : w.setCell ⟨B, o, none⟩ v = setBlk w B (.cells (vs.setIfInBounds o v) ty (0, 0)) := by
  have hlt := (Array.getElem?_eq_some_iff.1 h).1
  simp only [World.setCell, setBlk]
  congr 1
  apply Array.ext_getElem?
  intro i
  rw [Array.getElem?_modify]
  by_cases e : B = i
  · subst e
    rw [if_pos rfl, h]
    simp [hlt]
  · rw [if_neg e, Array.getElem?_setIfInBounds_ne e]
theorem frozen_blk {w : World} {B : Nat} {vs : Array Value} {ty : TypeId} (h : w.heap[B]? = some (.cells vs ty (0, 0))) (o : Nat) : w.frozen? ⟨B, o, none⟩ = false := by simp [World.frozen?, h]
/-- cells stored one behind the other -/
theorem run_storeCells' {B ty : Nat} (off : Nat) : ∀ (us : List Value) (k : Nat) (w : World) (vs : Array Value), w.heap[B]? = some (.cells vs ty (0, 0)) → off + k + us.length ≤ vs.size → (∀ u ∈ us, u.oneCell' = true) →
    (storeCells ⟨B, off, none⟩ us k).run P w = .ok () (setBlk w B (.cells ((us.zipIdx k).foldl (fun cs (c, j) => cs.setIfInBounds (off + j) c) vs) ty (0, 0)))
  | [], k, w, vs, h, _, _ => by
    have hlt := (Array.getElem?_eq_some_iff.1 h).1
    have : setBlk w B (.cells vs ty (0, 0)) = w := by
      simp only [setBlk]
      have e : w.heap.setIfInBounds B (.cells vs ty (0, 0)) = w.heap := by
        apply Array.ext_getElem?
        intro i
        by_cases e : B = i
        · subst e; rw [h]; simp [hlt]
        · rw [Array.getElem?_setIfInBounds_ne e]
      rw [e]
    simp [storeCells, this]
  | u :: us, k, w, vs, h, hl, h1 => by
    simp only [List.length_cons] at hl
    have hlt := (Array.getElem?_eq_some_iff.1 h).1
    have hc : w.cell? ⟨B, off + k, none⟩ = some (vs[off + k]'(by omega)) := by rw [block_cell h]; simp [show off + k < vs.size by omega]
    have := run_storeCells' off us (k + 1) (setBlk w B (.cells (vs.setIfInBounds (off + k) u) ty (0, 0))) (vs.setIfInBounds (off + k) u) (setBlk_same _ _ hlt) (by simp; omega) (fun x hx => h1 x (by simp [hx]))
    simp only [storeCells, Sem.run_bind, addr_add]
    rw [run_store P w _ u .plain (h1 u (by simp)), hc]
    simp only [frozen_blk h, Bool.false_eq_true, if_false, Result.andThen_ok, setCell_blk h, this, List.zipIdx_cons, List.foldl_cons]
    congr 1
    simp [setBlk, Array.setIfInBounds_setIfInBounds]
theorem FR.one {v : Value} {x : FV} (h : FR M v x) : v.oneCell' = true := by cases h <;> rfl
theorem VR.one {v : Value} {x : AV} (h : VR M μ v x) (h1 : one x = true) : v.oneCell' = true := by
  cases h with
  | d h => exact h.one
  | agg => simp [Vm.one] at h1
  | tup => simp [Vm.one] at h1
  | undef => simp [Vm.one] at h1
  | row v b g l hl hg h2 h => obtain ⟨A, n, c, rfl⟩ := h2; rfl
  | bptr v b j l hl h2 h => obtain ⟨A, rfl⟩ := h2; rfl
  | eptr v b g i j l hl hg h2 h => obtain ⟨A, rfl⟩ := h2; rfl
  | win v b g lo n l hl hg h2 h => obtain ⟨A, m, c, rfl⟩ := h2; rfl
  | map v b l hl h2 h => obtain ⟨A, rfl⟩ := h2; rfl
  | fptr => rfl
  | func => rfl
  | iface => rfl
theorem VRs.ones {vs : Array Value} {cs : List AV} (h : VRs M μ vs cs) (h1 : cs.all Vm.one = true) : ∀ u ∈ vs.toList, u.oneCell' = true := fun u hu => by
  obtain ⟨i, hi⟩ := List.getElem?_of_mem hu
  have hlt := (List.getElem?_eq_some_iff.1 hi).1
  have hlt' : i < cs.length := by rw [← h.1]; simpa using hlt
  exact (h.2 i u cs[i] (by simpa using hi) (by simp [hlt'])).one (List.all_eq_true.1 h1 _ (List.getElem_mem hlt'))
theorem not_undef {x : AV} (h : x.cells.all one = true) : x ≠ .undef := fun e => by subst e; simp [AV.cells, one] at h
/-- a block's cells turn -/
theorem Sim.setB (hs : Sim μ M w H) {b B ty : Nat} {l : Loc} {vs vs' : Array Value} {k k' : Blk} (hb : H[b]? = some k) (hl : μ b = some l) (had : l.ad = some B) (hB : w.heap[B]? = some (.cells vs ty (0, 0)))
    (hM : ∀ o v, M B o = some v → vs'[o]? = some v) (hk : BlkOK μ M (setBlk w B (.cells vs' ty (0, 0))) b k') :
    Sim μ M (setBlk w B (.cells vs' ty (0, 0))) (H.set b k') ∧ Nx μ M w H μ M (setBlk w B (.cells vs' ty (0, 0))) (H.set b k') := by
  have hlt : b < H.length := (List.getElem?_eq_some_iff.1 hb).1
  have hBlt := (Array.getElem?_eq_some_iff.1 hB).1
  have other : ∀ C, C ≠ B → (setBlk w B (.cells vs' ty (0, 0))).heap[C]? = w.heap[C]? := fun C h => setBlk_other _ _ h
  refine ⟨hs.turn b (.refl _ _) (fun x hx => hs.dom x (by simpa using hx)) (fun c o v e => ?_) (fun x hx => getElem?_set_ne' _ _ _ _ hx) (fun _ _ => rfl) (fun q hq => ?_) (fun l0 B e1 e2 => .inl ⟨l0, e1, e2⟩) (fun x l0 C hx e1 e2 => ⟨other C fun e => ?_, fun _ h => h⟩),
    hs.turnNx b (.refl _ _) (fun _ _ => rfl) (fun l0 B e1 e2 => .inl ⟨l0, e1, e2⟩) rfl rfl rfl (by simp [setBlk]) (fun C hC h => other C fun e => ?_) (fun _ _ _ h => .inl h)⟩
  · by_cases hc : c = B
    · subst hc
      rw [block_cell (setBlk_same w _ hBlt)]
      exact hM o v e
    · have := hs.mem c o v e
      unfold World.cell? at this ⊢
      rw [other c hc]; exact this
  · rw [List.getElem?_set_self hlt] at hq
    cases hq
    exact hk
  · subst e
    exact hs.apart x b l0 l C (hs.lt e1 e2).1 hlt hx e1 hl e2 had
  · subst e; exact h l hl had
theorem run_storeVar' {t n : Nat} (hsz : (P.info? t).map (·.size) = some n) {B ty : Nat} {vs : Array Value} (h : w.heap[B]? = some (.cells vs ty (0, 0))) (o : Nat) (v : Value) (hv : v.cells.size = n) (hl : o + n ≤ vs.size) (h1 : ∀ u ∈ v.cells.toList, u.oneCell' = true) :
    (storeVar t ⟨B, o, none⟩ v).run P w = .ok () (setBlk w B (.cells (v.cells.zipIdx.foldl (fun cs (c, j) => cs.setIfInBounds (o + j) c) vs) ty (0, 0))) := by
  have e : v.cells.zipIdx.foldl (fun cs (c, j) => cs.setIfInBounds (o + j) c) vs = (v.cells.toList.zipIdx 0).foldl (fun cs (c, j) => cs.setIfInBounds (o + j) c) vs := by
    rw [← Array.foldl_toList, Array.toList_zipIdx]
  have := run_storeCells' (P := P) o v.cells.toList 0 w vs h (by simp; omega) h1
  simp only [storeVar, Sem.run_bind, run_size hsz, Result.andThen_ok, hv, ne_eq, not_true_eq_false, if_false, e]
  exact this
theorem op_store {x z : Arg} {y u : Operand} {o : Oper} {t n : Nat} (ho : o.op = .store t y u) (hok : okA x y = true) (hoz : okA z u = true) (hsz : (P.info? t).map (·.size) = some n) (hs : Sim μ M w H) (he : EnvR M μ a env) {v : AV} {H' : Heap}
    (h : evOp (.store n x z) env H = some (v, H')) : Post μ M w H v H' ((execOp a.eval o).run P w) := by
  have hx := he.arg hok
  have hz := he.arg hoz
  simp only [evOp] at h
  split at h
  · rename_i b j e
    rw [e] at hx
    split at h
    · rename_i ty cs e2
      split at h
      · rename_i hl
        obtain ⟨hn, hj, h1⟩ := hl
        simp only [Option.some.injEq, Prod.mk.injEq] at h
        obtain ⟨rfl, rfl⟩ := h
        obtain ⟨l, B, vs, k1, k2, k3, k4, k5, k6⟩ := hs.blk b _ e2
        have : ∃ B, l.ad = some B ∧ a.eval y = .pointer (some ⟨B, j, none⟩) := by
          generalize a.eval y = u at hx
          cases hx with | bptr u b j l' q1 _ q2 => rw [k1] at q1; cases q1; exact q2 k2
        obtain ⟨B', q1, q2⟩ := this
        rw [k3] at q1
        cases q1
        have hc := hz.cells (not_undef h1)
        have hvs := k5.1
        have hBlt := (Array.getElem?_eq_some_iff.1 k4).1
        have hrun := run_storeVar' (P := P) hsz k4 j (a.eval u) (by rw [hc.1]; exact hn) (by omega) (hc.ones h1)
        obtain ⟨r1, r2⟩ := hs.setB (vs' := (a.eval u).cells.zipIdx.foldl (fun cs (c, i) => cs.setIfInBounds (j + i) c) vs) (k' := .box ty (putAt cs j (z.ev env).cells)) e2 k1 k3 k4 (fun o v e => by rw [k6] at e; cases e)
          ⟨l, B, _, k1, k2, k3, setBlk_same _ _ hBlt, k5.laid hc j (by omega), k6⟩
        exact ⟨undef, _, μ, M, .inr ⟨by simp [execOp, ho, Instr.storeAt, q2, Instr.sureAddr, hrun], rfl⟩, .undef _, r1, r2⟩
      · cases h
    · cases h
  · rename_i b q i j e
    rw [e] at hx
    split at h
    · rename_i ty el g' p e2
      split at h
      · rename_i hl
        obtain ⟨rfl, hp, hi, rfl, rfl, hn, h1⟩ := hl
        simp only [Option.some.injEq, Prod.mk.injEq] at h
        obtain ⟨rfl, rfl⟩ := h
        obtain ⟨l, k1, k2, k3, k4, k6, k7, k8⟩ := hs.blk b _ e2
        rcases k8 with ⟨_, rfl, _⟩ | ⟨B, vs, a1, a2, a3, a4, a6, a7⟩
        · simp at hi
        have : ∃ B, l.ad = some B ∧ a.eval y = .pointer (some ⟨B, i * l.sz + 0, none⟩) := by
          generalize a.eval y = u at hx
          cases hx with | eptr u b g i j l' q1 _ _ q2 => rw [k1] at q1; cases q1; exact q2 k2
        obtain ⟨B', q1, q2⟩ := this
        rw [a1] at q1
        cases q1
        rw [k4] at q2
        simp only [Nat.mul_one, Nat.add_zero] at q2
        have hc := hz.cells (not_undef h1)
        have hBlt := (Array.getElem?_eq_some_iff.1 a2).1
        have hrun := run_storeVar' (P := P) hsz a2 i (a.eval u) (by rw [hc.1]; exact hn) (by omega) (hc.ones h1)
        have hVs : VRs M μ (vs.extract 0 el.length) el := ⟨by simp; omega, fun m v x e1 e3 => by
          rw [Array.getElem?_extract] at e1
          split at e1
          · exact a6 m x v e3 (by simpa using e1)
          · cases e1⟩
        have hget := foldl_put i (a.eval u).cells.toList 0 vs
        have efold : (a.eval u).cells.zipIdx.foldl (fun cs (c, j) => cs.setIfInBounds (i + j) c) vs = ((a.eval u).cells.toList.zipIdx 0).foldl (fun cs (c, j) => cs.setIfInBounds (i + j) c) vs := by
          rw [← Array.foldl_toList, Array.toList_zipIdx]
        have hcl : (a.eval u).cells.size = 1 := by rw [hc.1]; exact hn
        have hnew : ∀ m, (((a.eval u).cells.zipIdx.foldl (fun cs (c, j) => cs.setIfInBounds (i + j) c) vs))[m]? = if m = i then (a.eval u).cells[0]? else vs[m]? := fun m => by
          rw [efold, hget.2]
          simp only [Nat.add_zero, Array.length_toList, hcl]
          by_cases hm : m = i
          · subst hm
            rw [if_pos ⟨Nat.le_refl _, by omega, by omega⟩, if_pos rfl]; simp
          · rw [if_neg (by omega), if_neg hm]
        obtain ⟨r1, r2⟩ := hs.setB (vs' := (a.eval u).cells.zipIdx.foldl (fun cs (c, j) => cs.setIfInBounds (i + j) c) vs) (k' := .rows ty (el.set i ((z.ev env).cells.getD 0 .undef)) q p) e2 k1 a1 a2
          (fun m v em => by
            have hm : m ≠ i := fun h => by rw [h, a7 i hp] at em; cases em
            rw [hnew, if_neg hm, ← block_cell a2]
            exact hs.mem _ _ _ em)
          ⟨l, k1, k2, by simpa using k3, k4, by simpa using k6, k7, .inr ⟨B, _, a1, setBlk_same _ _ hBlt, a3, by rw [efold, hget.1]; exact a4, fun m x v e1 e3 => by
            rw [hnew] at e3
            by_cases hm : m = i
            · subst hm
              rw [if_pos rfl] at e3
              rw [List.getElem?_set_self hi] at e1
              cases e1
              exact hc.2 0 v _ e3 (by simp [List.getD_eq_getElem?_getD, show 0 < (z.ev env).cells.length by omega])
            · rw [if_neg hm] at e3
              rw [List.getElem?_set_ne (Ne.symm hm)] at e1
              exact a6 m x v e1 e3, a7⟩⟩
        exact ⟨undef, _, μ, M, .inr ⟨by simp [execOp, ho, Instr.storeAt, q2, Instr.sureAddr, hrun], rfl⟩, .undef _, r1, r2⟩
      · cases h
    · split at h
      · rename_i fs H1 e1
        split at h
        · rename_i ty sz el g' p e2
          split at h
          · rename_i cs e3
            split at h
            · rename_i hl
              obtain ⟨rfl, hp, hn, hj⟩ := hl
              simp only [Option.some.injEq, Prod.mk.injEq] at h
              obtain ⟨rfl, rfl⟩ := h
              have hu : z.ev env ≠ .undef := fun e => by rw [e] at e1; simp [AV.cells, fzs, fzL, fz, fzN] at e1
              have hc := hz.cells hu
              obtain ⟨M1, s1, s2, s3⟩ := fzL_sound fz_sound (z.ev env).cells (vs := (a.eval u).cells.toList) hs (fun i v a e1 e2 => hc.2 i v a (by simpa using e1) e2) (by simpa using hc.1) e1
              have hs1 := s3.sim
              obtain ⟨l, k1, k2, k3, k4, k5, k6, k7, k8⟩ := hs1.blk b _ e2
              have hi := (List.getElem?_eq_some_iff.1 e3).1
              rcases k8 with ⟨_, rfl, _⟩ | ⟨B, vs, a1, a2, a3, a4, a5, a6, a7⟩
              · simp at hi
              have hx1 := hx.ext s3.nx.ext
              have : ∃ B, l.ad = some B ∧ a.eval y = .pointer (some ⟨B, i * l.sz + j, none⟩) := by
                generalize a.eval y = u at hx1
                cases hx1 with | eptr u b g i j l' q1 _ _ q2 => rw [k1] at q1; cases q1; exact q2 k2
              obtain ⟨B', q1, q2⟩ := this
              rw [a1] at q1
              cases q1
              rw [k4] at q2
              have hcs := a5 i cs e3
              have hle : i * sz + sz ≤ vs.size := by
                rw [a4]
                calc i * sz + sz = (i + 1) * sz := by rw [Nat.add_mul, Nat.one_mul]
                  _ ≤ l.cap * sz := Nat.mul_le_mul_right _ (by omega)
              have hBlt := (Array.getElem?_eq_some_iff.1 a2).1
              have hcl : (a.eval u).cells.size = n := by rw [hc.1, ← s1]; exact hn
              have hones : ∀ q ∈ (a.eval u).cells.toList, q.oneCell' = true := fun q hq => by
                obtain ⟨m, hm⟩ := List.getElem?_of_mem hq
                have hm1 := (List.getElem?_eq_some_iff.1 hm).1
                have hm2 : m < fs.length := by rw [hn]; simpa [hcl] using hm1
                exact (s2 m q fs[m] hm (by simp [hm2])).one
              have hrun := run_storeVar' (P := P) hsz a2 (i * sz + j) (a.eval u) hcl (by omega) hones
              have hget := foldl_put (i * sz + j) (a.eval u).cells.toList 0 vs
              have efold : (a.eval u).cells.zipIdx.foldl (fun cs (c, k) => cs.setIfInBounds (i * sz + j + k) c) vs = ((a.eval u).cells.toList.zipIdx 0).foldl (fun cs (c, k) => cs.setIfInBounds (i * sz + j + k) c) vs := by
                rw [← Array.foldl_toList, Array.toList_zipIdx]
              have hnew : ∀ m, (((a.eval u).cells.zipIdx.foldl (fun cs (c, k) => cs.setIfInBounds (i * sz + j + k) c) vs))[m]? = if i * sz + j ≤ m ∧ m < i * sz + j + n then (a.eval u).cells[m - (i * sz + j)]? else vs[m]? := fun m => by
                rw [efold, hget.2]
                simp only [Nat.add_zero, Array.length_toList, hcl]
                by_cases hm : i * sz + j ≤ m ∧ m < i * sz + j + n
                · rw [if_pos ⟨hm.1, hm.2, by omega⟩, if_pos hm]; simp
                · rw [if_neg (by omega), if_neg hm]
              have hlt1 : b < H1.length := (List.getElem?_eq_some_iff.1 e2).1
              obtain ⟨r1, r2⟩ := hs1.setB (vs' := (a.eval u).cells.zipIdx.foldl (fun cs (c, k) => cs.setIfInBounds (i * sz + j + k) c) vs) (k' := .row ty sz (el.set i (putAt cs j fs)) q p) e2 k1 a1 a2
                (fun m v em => by
                  have hm : m < p * sz := by
                    rcases Nat.lt_or_ge m (p * sz) with h | h
                    · exact h
                    · rw [a7 m h] at em; cases em
                  have : p * sz ≤ i * sz := Nat.mul_le_mul_right _ hp
                  rw [hnew, if_neg (by omega), ← block_cell a2]
                  exact hs1.mem _ _ _ em)
                ⟨l, k1, k2, by simpa using k3, k4, k5, by simpa using k6, k7, .inr ⟨B, _, a1, setBlk_same _ _ hBlt, a3, by rw [efold, hget.1]; exact a4, fun m c e => by
                    by_cases hm : m = i
                    · subst hm
                      rw [List.getElem?_set_self hi] at e
                      cases e
                      rw [putAt_length _ _ _ (by omega)]; exact hcs
                    · rw [List.getElem?_set_ne (Ne.symm hm)] at e
                      exact a5 m c e, fun m c k x v f1 f2 f3 => by
                    rw [hnew] at f3
                    by_cases hm : m = i
                    · subst hm
                      rw [List.getElem?_set_self hi] at f1
                      cases f1
                      rw [putAt_get _ _ _ (by omega)] at f2
                      have hk : k < sz := by
                        split at f2
                        · omega
                        · have := (List.getElem?_eq_some_iff.1 f2).1; omega
                      by_cases hkk : j ≤ k ∧ k < j + fs.length
                      · rw [if_pos hkk] at f2
                        rw [if_pos ⟨by omega, by omega⟩, show m * sz + k - (m * sz + j) = k - j by omega] at f3
                        exact s2 (k - j) v x (by simpa using f3) f2
                      · rw [if_neg hkk] at f2
                        rw [if_neg (by omega)] at f3
                        exact a6 m cs k x v e3 f2 f3
                    · rw [List.getElem?_set_ne (Ne.symm hm)] at f1
                      have hk := (List.getElem?_eq_some_iff.1 f2).1
                      rw [a5 m c f1] at hk
                      rw [if_neg] at f3
                      · exact a6 m c k x v f1 f2 f3
                      · rintro ⟨g1, g2⟩
                        rcases Nat.lt_or_gt_of_ne hm with h | h
                        · have : (m + 1) * sz ≤ i * sz := Nat.mul_le_mul_right _ h
                          rw [Nat.add_mul, Nat.one_mul] at this
                          omega
                        · have : (i + 1) * sz ≤ m * sz := Nat.mul_le_mul_right _ h
                          rw [Nat.add_mul, Nat.one_mul] at this
                          omega, a7⟩⟩
              exact ⟨undef, _, μ, M1, .inr ⟨by simp [execOp, ho, Instr.storeAt, q2, Instr.sureAddr, hrun], rfl⟩, .undef _, r1, s3.nx.trans r2⟩
            · cases h
          · cases h
        · cases h
      · cases h
  · cases h
end
end Go.Vm
/- append. -/
namespace Go.Vm
open Go
section
variable {P : Program} {μ : Place} {M : Mem} {w : World} {H : Heap} {a : Act} {env : List AV}
/-- the cells of a slice's elements -/
def News (M : Mem) (w : World) (sz : Nat) (xs : List (List FV)) (ad : Addr) (news : List Value) : Prop :=
  news.length = xs.length * sz ∧ (∀ (j : Nat) (u : Value), news[j]? = some u → w.cell? (ad.add j) = some u) ∧ (∀ u ∈ news, u.oneCell' = true) ∧
    ∀ (i : Nat) (cs : List FV) (j : Nat) (x : FV), xs[i]? = some cs → cs[j]? = some x → ∃ u, news[i * sz + j]? = some u ∧ FR M u x
theorem elems_news (hs : Sim μ M w H) {v : Value} {x : AV} (hv : VR M μ v x) {xs : List (List FV)} (h : elems x H = some xs) {sz : Nat} (h0 : 0 < sz) (hall : xs.all (fun e => e.length == sz) = true) :
    ∃ A c, v = .slice A xs.length c ∧ (xs ≠ [] → ∃ ad news, A = some ad ∧ News M w sz xs ad news) := by
  have hl : ∀ (i : Nat) (cs : List FV), xs[i]? = some cs → cs.length = sz := fun i cs e => by
    have := List.all_eq_true.1 hall cs (List.mem_of_getElem? e)
    simpa using this
  have hsplit : ∀ k, k < xs.length * sz → k / sz < xs.length ∧ k % sz < sz ∧ (k / sz) * sz + k % sz = k := fun k hk => ⟨Nat.div_lt_of_lt_mul (by rw [Nat.mul_comm]; exact hk), Nat.mod_lt _ h0, by rw [Nat.mul_comm]; exact Nat.div_add_mod k sz⟩
  unfold elems at h
  split at h
  · cases h
    cases hv.d_inv with
    | slE A cap => exact ⟨A, cap, rfl, fun h => absurd rfl h⟩
    | sl b o cap sz' u ys hne hc hl' hM hR =>
      refine ⟨_, cap, rfl, fun _ => ⟨⟨b, o, none⟩, (List.range (xs.length * sz)).map fun k => u (k / sz) (k % sz), rfl, by simp, fun j z e => ?_, fun z hz => ?_, fun i cs j x e1 e2 => ?_⟩⟩
      · have hszz : sz' = sz := by
          cases xs with
          | nil => exact absurd rfl hne
          | cons c r => rw [← hl' 0 c rfl, hl 0 c rfl]
        subst hszz
        rw [List.getElem?_map] at e
        by_cases hj : j < xs.length * sz'
        · rw [List.getElem?_range hj] at e
          simp at e
          subst e
          obtain ⟨q1, q2, q3⟩ := hsplit j hj
          have hcs : xs[j / sz']? = some (xs[j / sz']'q1) := by simp [q1]
          have hlen := hl _ _ hcs
          rw [addr_add]
          have := hM (j / sz') _ (j % sz') ((xs[j / sz']'q1)[j % sz']'(by omega)) hcs (by simp [show j % sz' < (xs[j / sz']'q1).length by omega])
          rw [Nat.add_assoc, q3] at this
          exact hs.mem _ _ _ this
        · rw [List.getElem?_eq_none (by simpa using hj)] at e; cases e
      · simp only [List.mem_map, List.mem_range] at hz
        obtain ⟨k, hk, rfl⟩ := hz
        obtain ⟨q1, q2, q3⟩ := hsplit k hk
        have hcs : xs[k / sz]? = some (xs[k / sz]'q1) := by simp [q1]
        have hlen := hl _ _ hcs
        exact (hR (k / sz) _ (k % sz) ((xs[k / sz]'q1)[k % sz]'(by omega)) hcs (by simp [show k % sz < (xs[k / sz]'q1).length by omega])).one
      · have hi := (List.getElem?_eq_some_iff.1 e1).1
        have hj := (List.getElem?_eq_some_iff.1 e2).1
        rw [hl i cs e1] at hj
        refine ⟨u i j, ?_, hR i cs j x e1 e2⟩
        have hk := mul_lt hi hj
        have d1 : (i * sz + j) / sz = i := by rw [Nat.mul_comm, Nat.mul_add_div h0, Nat.div_eq_of_lt hj, Nat.add_zero]
        have d2 : (i * sz + j) % sz = j := by rw [Nat.mul_comm, Nat.mul_add_mod, Nat.mod_eq_of_lt hj]
        rw [List.getElem?_map, List.getElem?_range hk]
        simp [d1, d2]
  · cases h
    exact ⟨none, 0, hv.nil_inv, fun h => absurd rfl h⟩
  · cases h
    obtain ⟨A, e⟩ := hv.emp_inv
    exact ⟨A, 0, e, fun h => absurd rfl h⟩
  · rename_i b g
    split at h
    · rename_i ty sz' el g' p e
      split at h
      · rename_i hg
        subst hg
        cases h
        obtain ⟨l, k1, k2, k3⟩ := hv.row_cur hs (by simp [genOf, e])
        obtain ⟨l', q1, q2, q3, q4, q5, q6, q7, q8⟩ := hs.blk b _ e
        rw [k1] at q1
        cases q1
        rcases q8 with ⟨a1, rfl, a3⟩ | ⟨B, vs, a1, a2, a3, a4, a5, a6, a7⟩
        · exact ⟨none, l.cap, by rw [k3, Loc.val, a1, q3]; rfl, fun h => absurd rfl h⟩
        · refine ⟨some ⟨B, 0, none⟩, l.cap, by rw [k3, Loc.val, a1, q3]; rfl, fun hne => ⟨⟨B, 0, none⟩, vs.toList.take (xs.length * sz), rfl, ?_, fun j z e => ?_, fun z hz => ?_, fun i cs j x e1 e2 => ?_⟩⟩
          all_goals
            have hszz : sz' = sz := by
              cases xs with
              | nil => exact absurd rfl hne
              | cons c r => rw [← a5 0 c rfl, hl 0 c rfl]
            subst hszz
            have hle : xs.length * sz' ≤ vs.size := by rw [a4]; exact Nat.mul_le_mul_right _ (by omega)
          · simp; omega
          · rw [List.getElem?_take] at e
            split at e
            · rw [addr_add, Nat.zero_add, block_cell a2]; simpa using e
            · cases e
          · obtain ⟨k, hk⟩ := List.getElem?_of_mem hz
            rw [List.getElem?_take] at hk
            split at hk
            · rename_i hk2
              obtain ⟨q1, q2', q3'⟩ := hsplit k hk2
              have hcs : xs[k / sz']? = some (xs[k / sz']'q1) := by simp [q1]
              have hlen := hl _ _ hcs
              exact (a6 (k / sz') _ (k % sz') ((xs[k / sz']'q1)[k % sz']'(by omega)) z hcs (by simp [show k % sz' < (xs[k / sz']'q1).length by omega]) (by rw [q3']; simpa using hk)).one
            · cases hk
          · have hi := (List.getElem?_eq_some_iff.1 e1).1
            have hj := (List.getElem?_eq_some_iff.1 e2).1
            rw [hl i cs e1] at hj
            have hk := mul_lt hi hj
            have f1 : vs[i * sz' + j]? = some (vs[i * sz' + j]'(by omega)) := by simp [show i * sz' + j < vs.size by omega]
            exact ⟨_, by rw [List.getElem?_take, if_pos hk]; simp, a6 i cs j x _ e1 e2 f1⟩
      · cases h
    · cases h
  · rename_i b g lo n
    split at h
    · rename_i ty sz' el g' p e
      split at h
      · rename_i hg
        subst hg
        cases h
        obtain ⟨l, q1, q2, q3, q4, q5, q6, q7, q8⟩ := hs.blk b _ e
        cases hv with
        | win _ _ _ _ _ l' hl' hgl hh hcur =>
          rw [q1] at hl'; cases hl'
          obtain ⟨w1, rfl⟩ := hcur q2
          have hlen : ((el.drop lo).take n).length = n := by simp; omega
          refine ⟨_, _, by rw [hlen], fun hne => ?_⟩
          have hn0 : 0 < n := by
            rcases Nat.eq_zero_or_pos n with h | h
            · subst h; exact absurd (by simp) hne
            · exact h
          rcases q8 with ⟨a1, rfl, a3⟩ | ⟨B, vs, a1, a2, a3, a4, a5, a6, a7⟩
          · simp at q3; omega
          · have hget : ∀ (i : Nat) (cs : List FV), ((el.drop lo).take n)[i]? = some cs → i < n ∧ el[lo + i]? = some cs := fun i cs e => by
              rw [List.getElem?_take] at e
              split at e
              · rename_i hi
                rw [List.getElem?_drop] at e
                exact ⟨hi, e⟩
              · cases e
            have hszz : sz' = sz := by
              have hx0 : el[lo]? = some (el[lo]'(by omega)) := by simp [show lo < el.length by omega]
              have h2 : ((el.drop lo).take n)[0]? = some (el[lo]'(by omega)) := by rw [List.getElem?_take, if_pos hn0, List.getElem?_drop]; exact hx0
              rw [← a5 lo _ hx0, hl 0 _ h2]
            subst hszz
            have hcap : ¬ l.cap = lo := by omega
            refine ⟨⟨B, lo * sz', none⟩, (vs.toList.drop (lo * sz')).take (n * sz'), by rw [if_neg hcap, a1, q4]; rfl, ?_, fun j z e => ?_, fun z hz => ?_, fun i cs j x e1 e2 => ?_⟩
            all_goals
              have hle : (lo + n) * sz' ≤ vs.size := by rw [a4]; exact Nat.mul_le_mul_right _ (by omega)
              rw [Nat.add_mul] at hle
            · rw [hlen]; simp; omega
            · rw [List.getElem?_take] at e
              split at e
              · rw [addr_add, block_cell a2]
                rw [List.getElem?_drop] at e
                simpa using e
              · cases e
            · obtain ⟨k, hk⟩ := List.getElem?_of_mem hz
              rw [List.getElem?_take] at hk
              split at hk
              · rename_i hk2
                rw [List.getElem?_drop] at hk
                have d1 : k / sz' < n := Nat.div_lt_of_lt_mul (by rw [Nat.mul_comm]; exact hk2)
                have d2 : k % sz' < sz' := Nat.mod_lt _ h0
                have d3 : (k / sz') * sz' + k % sz' = k := by rw [Nat.mul_comm]; exact Nat.div_add_mod k sz'
                have hcs : el[lo + k / sz']? = some (el[lo + k / sz']'(by omega)) := by simp [show lo + k / sz' < el.length by omega]
                have hlen2 := a5 _ _ hcs
                exact (a6 (lo + k / sz') _ (k % sz') ((el[lo + k / sz']'(by omega))[k % sz']'(by omega)) z hcs (by simp [show k % sz' < (el[lo + k / sz']'(by omega)).length by omega]) (by rw [Nat.add_mul, Nat.add_assoc, d3]; simpa using hk)).one
              · cases hk
            · obtain ⟨hi, hel⟩ := hget i cs e1
              have hj := (List.getElem?_eq_some_iff.1 e2).1
              rw [hl i cs e1] at hj
              have hk := mul_lt hi hj
              have f1 : vs[(lo + i) * sz' + j]? = some (vs[(lo + i) * sz' + j]'(by rw [Nat.add_mul]; omega)) := by simp [show (lo + i) * sz' + j < vs.size by rw [Nat.add_mul]; omega]
              refine ⟨_, ?_, a6 (lo + i) cs j x _ hel e2 f1⟩
              have hix : lo * sz' + (i * sz' + j) = (lo + i) * sz' + j := by rw [Nat.add_mul]; omega
              rw [List.getElem?_take, if_pos hk, List.getElem?_drop, hix]
              simp
      · cases h
    · cases h
  · cases h
/-- append of nothing -/
theorem run_app_none {t ty e : Nat} {i : TypeInfo} (ht : P.underlying t = some (.slice e)) (hi : P.info? e = some i) (A B : Option Addr) (n c d : Nat) (hc : n ≤ c) (w : World) :
    (Builtin.append_ #[t, t] ty #[.slice A n c, .slice B 0 d]).run P w = .ok (.slice A n c) w := by
  cases A <;> cases B <;> simp [Builtin.append_, run_und ht, sizeOf, typeInfo, hi, Builtin.lenOf, hc, Builtin.firstCells, loadCells, loadCellsFrom, storeCells]
/-- append to an empty slice without room: as to nil -/
theorem run_app_emp {t ty e : Nat} {i : TypeInfo} {z : Value} (ht : P.underlying t = some (.slice e)) (hi : P.info? e = some i) (hz : i.zero = some z) (A B : Option Addr) (n c : Nat) (hn : 0 < n) (h63 : n ≤ 9223372036854775807) (hb : n * i.bytes ≤ 140737488355328) (w : World) :
    (Builtin.append_ #[t, t] ty #[.slice A 0 0, .slice B n c]).run P w = (Builtin.append_ #[t, t] ty #[.slice none 0 0, .slice B n c]).run P w := by
  have h0 : ¬ n = 0 := by omega
  have h48 := growslice_fits (old := 0) hn hb
  have h48' : ¬ (281474976710656 < Builtin.nextslicecap n 0 * i.bytes) := by omega
  have h63' : ¬ ((9223372036854775807 : Int) < (n : Int)) := by omega
  cases A with
  | none => rfl
  | some A => simp [Builtin.append_, run_und ht, sizeOf, typeInfo, hi, Builtin.lenOf, h0, h48', h63', Builtin.firstCells, loadCells, loadCellsFrom]
theorem el_append {el xs : List (List FV)} {i : Nat} {cs : List FV} (h : (el ++ xs)[i]? = some cs) : (i < el.length ∧ el[i]? = some cs) ∨ (el.length ≤ i ∧ xs[i - el.length]? = some cs) := by
  rcases Nat.lt_or_ge i el.length with hi | hi
  · rw [List.getElem?_append_left hi] at h; exact .inl ⟨hi, h⟩
  · rw [List.getElem?_append_right hi] at h; exact .inr ⟨hi, h⟩
theorem FR_all {sz : Nat} {xs : List (List FV)} (hall : xs.all (fun e => e.length == sz) = true) (i : Nat) (cs : List FV) (e : xs[i]? = some cs) : cs.length = sz := by
  have := List.all_eq_true.1 hall cs (List.mem_of_getElem? e)
  simpa using this
theorem op_app_run {y u : Operand} {o : Oper} {t : Nat} (ho : o.op = .call { callee := .builtin .append, args := #[y, u], argTypes := #[t, t] }) {v' : Value} {w' : World}
    (h : (Builtin.append_ #[t, t] o.type #[a.eval y, a.eval u]).run P w = .ok v' w') : (execOp a.eval o).run P w = .ok (.value v') w' := by
  simp [execOp, ho, resolve, invoke, builtin, h]
theorem op_app {s x : Arg} {y u : Operand} {o : Oper} {t ty sz bytes : Nat} {i : TypeInfo} {z : Value} (ho : o.op = .call { callee := .builtin .append, args := #[y, u], argTypes := #[t, t] }) (hok : okA s y = true) (hox : okA x u = true) (ht : P.underlying t = some (.slice ty)) (hi : P.info? ty = some i) (hz : i.zero = some z)
    (hsz : i.size = sz) (hby : i.bytes = bytes) (hzs : z.cells.size = sz) (h0 : 0 < sz) (hb0 : 0 < bytes) (hs : Sim μ M w H) (he : EnvR M μ a env) {v : AV} {H' : Heap}
    (h : evOp (.app ty sz bytes s x) env H = some (v, H')) : Post μ M w H v H' ((execOp a.eval o).run P w) := by
  have hv := he.arg hok
  have hx := he.arg hox
  simp only [evOp] at h
  split at h
  · rename_i xs e0
    split at h
    · rename_i hall
      obtain ⟨A, c, hxv, hnews⟩ := elems_news hs hx e0 h0 hall
      split at h
      · rename_i e1
        rw [e1] at hv
        have hnil := hv.nil_inv
        split at h
        · rename_i hb
          simp only [maxBytes] at hb
          simp only [Option.some.injEq, Prod.mk.injEq] at h
          obtain ⟨rfl, rfl⟩ := h
          by_cases hne : xs = []
          · subst hne
            obtain ⟨l, q1, q2, q3⟩ := hs.nilRow ty sz h0
            have := run_app_none (P := P) (ty := o.type) ht hi none A 0 0 c (Nat.le_refl _) w
            rw [← hnil] at this
            simp only [List.length_nil] at hxv
            rw [← hxv] at this
            exact ⟨_, w, _, M, .inl (op_app_run ho this), by rw [hnil]; exact q3, q1, q2⟩
          · obtain ⟨ad, news, rfl, n1, n2, n3, n4⟩ := hnews hne
            obtain ⟨v', w', r1, r2, r3, r4, r5⟩ := run_append_own_at w 0 t o.type ty i z sz bytes ht hi hz hsz hby hzs h0 (.slice none 0 0) 0 [] (World.ownsRow_nil w 0 ty sz) ad xs.length c news n1 n2 n3 (by
              have : xs.length * 1 ≤ xs.length * bytes := Nat.mul_le_mul_left _ hb0
              simp only [maxLen]; omega) (by simpa using hb) (Nat.zero_le _)
            have hlen : 0 < xs.length := by cases xs with | nil => exact absurd rfl hne | cons => simp
            rw [← hnil, ← hxv] at r1
            simp only [Nat.zero_add, List.nil_append] at r2
            rcases r2.2 with ⟨rfl, h'⟩ | ⟨g, cap, cur, rfl, _, hg, hnc, hcm, hcs, htake⟩
            · omega
            · have hgs : g = w.heap.size := by
                rcases r5 with h | h
                · simp [Value.ownBlock] at h
                · simpa [Value.ownBlock] using h
              subst hgs
              obtain ⟨k1, k2⟩ := hs.new (w' := w') ⟨some w.heap.size, xs.length, cap, sz, 0⟩ (.row ty sz xs 0 0) (fun B h => by cases h; exact Nat.le_refl _) r3.os r3.tape r3.output r3.size (fun B hB => r3.block B hB (by simp [Value.ownBlock]))
                ⟨_, setLoc_same _ _ _, rfl, rfl, rfl, h0, Nat.zero_le _, by simpa [maxLen] using hcm, .inr ⟨w.heap.size, cur, rfl, hg, hnc, hcs, FR_all hall, fun i cs j x v e1 e2 e3 => by
                  obtain ⟨u', f1, f2⟩ := n4 i cs j x e1 e2
                  have hi := (List.getElem?_eq_some_iff.1 e1).1
                  have hj := (List.getElem?_eq_some_iff.1 e2).1
                  rw [FR_all hall i cs e1] at hj
                  rw [← htake, List.getElem?_take, if_pos (mul_lt hi hj)] at f1
                  have : u' = v := by
                    have : cur[i * sz + j]? = some u' := by simpa using f1
                    rw [e3] at this; cases this; rfl
                  subst this
                  exact f2, fun o _ => hs.freshM o⟩⟩
              exact ⟨_, w', _, M, .inl (op_app_run ho r1), .row _ _ _ _ (setLoc_same _ _ _) (Nat.le_refl _) ⟨_, _, _, rfl⟩ fun _ => rfl, k1, k2⟩
        · cases h
      · rename_i e1
        rw [e1] at hv
        obtain ⟨A', hnil⟩ := hv.emp_inv
        split at h
        · rename_i hb
          simp only [maxBytes] at hb
          by_cases hne : xs = []
          · subst hne
            simp only [List.isEmpty_nil, if_true, Option.some.injEq, Prod.mk.injEq] at h
            obtain ⟨rfl, rfl⟩ := h
            have := run_app_none (P := P) (ty := o.type) ht hi A' A 0 0 c (Nat.le_refl _) w
            rw [← hnil] at this
            simp only [List.length_nil] at hxv
            rw [← hxv] at this
            exact ⟨_, w, _, M, .inl (op_app_run ho this), by rw [hnil]; exact .d (.emp _), hs, .refl _ _ _ _⟩
          · have hie : xs.isEmpty = false := by cases xs with | nil => exact absurd rfl hne | cons => rfl
            rw [hie] at h
            simp only [Bool.false_eq_true, if_false, Option.some.injEq, Prod.mk.injEq] at h
            obtain ⟨rfl, rfl⟩ := h
            obtain ⟨ad, news, rfl, n1, n2, n3, n4⟩ := hnews hne
            obtain ⟨v', w', r1, r2, r3, r4, r5⟩ := run_append_own_at w 0 t o.type ty i z sz bytes ht hi hz hsz hby hzs h0 (.slice none 0 0) 0 [] (World.ownsRow_nil w 0 ty sz) ad xs.length c news n1 n2 n3 (by
              have : xs.length * 1 ≤ xs.length * bytes := Nat.mul_le_mul_left _ hb0
              simp only [maxLen]; omega) (by simpa using hb) (Nat.zero_le _)
            have hlen : 0 < xs.length := by cases xs with | nil => exact absurd rfl hne | cons => simp
            rw [← run_app_emp ht hi hz A' _ _ _ hlen (by
              have : xs.length * 1 ≤ xs.length * bytes := Nat.mul_le_mul_left _ hb0
              omega) (by rw [hby]; exact hb), ← hnil, ← hxv] at r1
            simp only [Nat.zero_add, List.nil_append] at r2
            rcases r2.2 with ⟨rfl, h'⟩ | ⟨g, cap, cur, rfl, _, hg, hnc, hcm, hcs, htake⟩
            · omega
            · have hgs : g = w.heap.size := by
                rcases r5 with h | h
                · simp [Value.ownBlock] at h
                · simpa [Value.ownBlock] using h
              subst hgs
              obtain ⟨k1, k2⟩ := hs.new (w' := w') ⟨some w.heap.size, xs.length, cap, sz, 0⟩ (.row ty sz xs 0 0) (fun B h => by cases h; exact Nat.le_refl _) r3.os r3.tape r3.output r3.size (fun B hB => r3.block B hB (by simp [Value.ownBlock]))
                ⟨_, setLoc_same _ _ _, rfl, rfl, rfl, h0, Nat.zero_le _, by simpa [maxLen] using hcm, .inr ⟨w.heap.size, cur, rfl, hg, hnc, hcs, FR_all hall, fun i cs j x v e1 e2 e3 => by
                  obtain ⟨u', f1, f2⟩ := n4 i cs j x e1 e2
                  have hi := (List.getElem?_eq_some_iff.1 e1).1
                  have hj := (List.getElem?_eq_some_iff.1 e2).1
                  rw [FR_all hall i cs e1] at hj
                  rw [← htake, List.getElem?_take, if_pos (mul_lt hi hj)] at f1
                  have : u' = v := by
                    have : cur[i * sz + j]? = some u' := by simpa using f1
                    rw [e3] at this; cases this; rfl
                  subst this
                  exact f2, fun o _ => hs.freshM o⟩⟩
              exact ⟨_, w', _, M, .inl (op_app_run ho r1), .row _ _ _ _ (setLoc_same _ _ _) (Nat.le_refl _) ⟨_, _, _, rfl⟩ fun _ => rfl, k1, k2⟩
        · cases h
      · rename_i b g e1
        rw [e1] at hv
        split at h
        · rename_i ty' sz' el g' p e2
          split at h
          · rename_i hb
            obtain ⟨rfl, rfl, rfl, hb⟩ := hb
            simp only [maxBytes] at hb
            simp only [Option.some.injEq, Prod.mk.injEq] at h
            obtain ⟨rfl, rfl⟩ := h
            obtain ⟨l, k1, k2, k3⟩ := hv.row_cur hs (by simp [genOf, e2])
            obtain ⟨l', q1, q2, q3, q4, q5, q6, q7, q8⟩ := hs.blk b _ e2
            rw [k1] at q1
            cases q1
            have hblt : b < H.length := (List.getElem?_eq_some_iff.1 e2).1
            have hext : ∀ l' : Loc, l'.g = g + 1 → Ext M μ M (setLoc μ b l') := fun l' hl' => ⟨fun _ _ _ h => h, fun x lx hx => by
              by_cases hxb : x = b
              · subst hxb
                rw [k1] at hx
                cases hx
                exact ⟨l', setLoc_same _ _ _, .inr (by omega)⟩
              · exact ⟨lx, by rw [setLoc_other _ _ hxb]; exact hx, .inl rfl⟩⟩
            have hown : w.ownsRow 0 ty sz l.val el.length (match l.ad with | none => [] | some B => (match w.heap[B]? with | some (.cells vs _ _) => vs.toList.take (el.length * sz) | _ => [])) := by
              rcases q8 with ⟨a1, rfl, a3⟩ | ⟨B, vs, a1, a2, a3, a4, a5, a6, a7⟩
              · simp only [a1]
                exact ⟨by simp, .inl ⟨by simp [Loc.val, a1, q3, a3], rfl⟩⟩
              · simp only [a1, a2]
                have hle : el.length * sz ≤ vs.size := by rw [a4, ← q3]; exact Nat.mul_le_mul_right _ a3
                exact ⟨by simp; omega, .inr ⟨B, l.cap, vs, by simp [Loc.val, a1, q3], Nat.zero_le _, a2, by omega, by simpa [maxLen] using q7, a4, rfl⟩⟩
            by_cases hne : xs = []
            · subst hne
              simp only [List.length_nil] at hxv
              have hc : l.n ≤ l.cap := by
                rcases q8 with ⟨a1, rfl, a3⟩ | ⟨B, vs, a1, a2, a3, _⟩
                · simp [q3]
                · exact a3
              have hrun := run_app_none (P := P) (ty := o.type) ht hi (l.ad.map (⟨·, 0, none⟩)) A l.n l.cap c hc w
              rw [← hxv] at hrun
              have hvv : a.eval y = .slice (l.ad.map (⟨·, 0, none⟩)) l.n l.cap := k3
              rw [← hvv] at hrun
              have hx1 := hext { l with g := g + 1 } rfl
              refine ⟨_, w, setLoc μ b { l with g := g + 1 }, M, .inl (op_app_run ho hrun), .row _ _ _ _ (setLoc_same _ _ _) (Nat.le_refl _) ⟨_, _, _, hvv⟩ fun _ => k3, ?_, ?_⟩
              · refine hs.turn b hx1 (fun x hx => by rw [setLoc_other _ _ (by simp at hx; omega)]; exact hs.dom x (by simpa using hx)) hs.mem (fun x hx => getElem?_set_ne' _ _ _ _ hx) (fun x hx => setLoc_other _ _ hx) (fun q hq => ?_) (fun l0 B e1 e2 => by rw [setLoc_same] at e1; cases e1; exact .inl ⟨l, k1, e2⟩) (fun x l0 B _ _ _ => ⟨rfl, fun _ h => h⟩)
                rw [List.getElem?_set_self hblt] at hq
                cases hq
                refine ⟨_, setLoc_same _ _ _, rfl, by simpa using q3, q4, q5, by simpa using q6, q7, ?_⟩
                simpa using q8
              · exact hs.turnNx b hx1 (fun x hx => setLoc_other _ _ hx) (fun l0 B e1 e2 => by rw [setLoc_same] at e1; cases e1; exact .inl ⟨l, k1, e2⟩) rfl rfl rfl (Nat.le_refl _) (fun _ _ _ => rfl) (fun _ _ _ h => .inl h)
            · obtain ⟨ad, news, rfl, n1, n2, n3, n4⟩ := hnews hne
              have hlen : 0 < xs.length := by cases xs with | nil => exact absurd rfl hne | cons => simp
              have hsum : el.length + xs.length ≤ 140737488355328 := by
                have : (el.length + xs.length) * 1 ≤ (el.length + xs.length) * bytes := Nat.mul_le_mul_left _ hb0
                omega
              obtain ⟨v', w', r1, r2, r3, r4, r5⟩ := run_append_own_at w 0 t o.type ty i z sz bytes ht hi hz hsz hby hzs h0 l.val el.length _ hown ad xs.length c news n1 n2 n3 (by simp only [maxLen]; omega) hb (Nat.zero_le _)
              rw [← k3, ← hxv] at r1
              rcases r2.2 with ⟨rfl, h'⟩ | ⟨G, cap, cur, rfl, _, hg, hnc, hcm, hcs, htake⟩
              · omega
              · have hblk : ∀ B, B < w.heap.size → l.ad ≠ some B → w'.heap[B]? = w.heap[B]? := fun B hB hne' => r3.block B hB (by
                  cases had : l.ad with
                  | none => simp [Loc.val, had, Value.ownBlock]
                  | some C => simp [Loc.val, had, Value.ownBlock]; exact fun e => hne' (by rw [had, e]))
                have hG : l.ad = some G ∨ G = w.heap.size := by
                  rcases r5 with h | h
                  · left
                    cases had : l.ad with
                    | none => simp [Loc.val, had, Value.ownBlock] at h
                    | some C => simp [Loc.val, had, Value.ownBlock] at h; rw [h]
                  · right; simpa [Value.ownBlock] using h
                have hx1 := hext ⟨some G, el.length + xs.length, cap, sz, g + 1⟩ rfl
                have hMG : ∀ o, p * sz ≤ o → M G o = none := fun o ho' => by
                  rcases hG with h | h
                  · rcases q8 with ⟨a1, _, _⟩ | ⟨B, vs, a1, a2, a3, a4, a5, a6, a7⟩
                    · rw [a1] at h; cases h
                    · rw [a1] at h; cases h; exact a7 o ho'
                  · subst h; exact hs.freshM o
                -- what the row held it holds on
                have hold : ∀ k, k < el.length * sz → ∀ B vs, l.ad = some B → w.heap[B]? = some (.cells vs ty (0, 0)) → cur[k]? = vs[k]? := fun k hk B vs hB hvs => by
                  have : (cur.toList.take ((el.length + xs.length) * sz))[k]? = (vs.toList.take (el.length * sz) ++ news)[k]? := by
                    rw [htake]; simp [hB, hvs]
                  have hle : el.length * sz ≤ vs.size := by
                    rcases q8 with ⟨a1, _, _⟩ | ⟨B', vs', a1, a2, a3, a4, _⟩
                    · rw [a1] at hB; cases hB
                    · rw [a1] at hB; cases hB
                      rw [a2] at hvs; cases hvs
                      rw [a4, ← q3]; exact Nat.mul_le_mul_right _ a3
                  rw [List.getElem?_take, if_pos (by rw [Nat.add_mul]; omega), List.getElem?_append_left (by simp; omega), List.getElem?_take, if_pos hk] at this
                  simpa using this
                have hnewc : ∀ k, k < xs.length * sz → cur[el.length * sz + k]? = news[k]? := fun k hk => by
                  have hl2 := hown.1
                  have : (cur.toList.take ((el.length + xs.length) * sz))[el.length * sz + k]? = _ := congrArg (fun l : List Value => l[el.length * sz + k]?) htake
                  rw [List.getElem?_take, if_pos (by rw [Nat.add_mul]; omega), List.getElem?_append_right (by omega), hl2, show el.length * sz + k - el.length * sz = k by omega] at this
                  simpa using this
                refine ⟨_, w', setLoc μ b ⟨some G, el.length + xs.length, cap, sz, g + 1⟩, M, .inl (op_app_run ho r1), .row _ _ _ _ (setLoc_same _ _ _) (Nat.le_refl _) ⟨_, _, _, rfl⟩ fun _ => rfl, ?_, ?_⟩
                · refine hs.turn b hx1 (fun x hx => by rw [setLoc_other _ _ (by simp at hx; omega)]; exact hs.dom x (by simpa using hx)) (fun C off v em => ?_) (fun x hx => getElem?_set_ne' _ _ _ _ hx) (fun x hx => setLoc_other _ _ hx) (fun q hq => ?_) (fun l0 B e1 e2 => by
                    rw [setLoc_same] at e1
                    cases e1
                    cases e2
                    rcases hG with h | h
                    · exact .inl ⟨l, k1, h⟩
                    · exact .inr (by omega)) (fun x l0 B hxb e1 e3 => ⟨hblk B (hs.lt e1 e3).2 (fun e => hs.apart x b l0 l B (hs.lt e1 e3).1 hblt hxb e1 k1 e3 e), fun _ h => h⟩)
                  · have hCl := hs.memlt em
                    have hcell := hs.mem C off v em
                    by_cases hC : l.ad = some C
                    · -- the row's own block: the first cells stay
                      rcases q8 with ⟨a1, _, _⟩ | ⟨B, vs, a1, a2, a3, a4, a5, a6, a7⟩
                      · rw [a1] at hC; cases hC
                      · rw [a1] at hC
                        cases hC
                        have ho' : off < p * sz := by
                          rcases Nat.lt_or_ge off (p * sz) with h | h
                          · exact h
                          · rw [a7 off h] at em; cases em
                        have hpe : p * sz ≤ el.length * sz := Nat.mul_le_mul_right _ q6
                        rcases hG with h | h
                        · rw [a1] at h
                          cases h
                          rw [block_cell hg, hold off (by omega) G vs a1 a2, ← block_cell a2]
                          exact hcell
                        · -- the row has gone elsewhere: its old block stays az it was, for the old one is not written
                          have hBlt : C < w.heap.size := (Array.getElem?_eq_some_iff.1 a2).1
                          have hlv : l.val = .slice (some ⟨C, 0, none⟩) el.length l.cap := by simp [Loc.val, a1, q3]
                          have hvle : el.length * sz ≤ vs.size := by rw [a4, ← q3]; exact Nat.mul_le_mul_right _ a3
                          rw [hxv, k3, hlv] at r1
                          have hw2 : w'.heap[C]? = w.heap[C]? := by
                            by_cases hroom : el.length + xs.length ≤ l.cap
                            · have hr := run_append_room (P := P) w t o.type ty i ht hi C el.length l.cap vs a2 ad xs.length c news (by rw [hsz]; exact n1) n2 n3 hroom (by
                                rw [hsz, n1, a4, ← Nat.add_mul]; exact Nat.mul_le_mul_right _ hroom)
                              rw [hr] at r1
                              simp only [Result.ok.injEq, Value.slice.injEq, Option.some.injEq, Addr.mk.injEq] at r1
                              omega
                            · have hr := run_append_grow (P := P) w t o.type ty i z ht hi hz ⟨C, 0, none⟩ el.length l.cap (vs.toList.take (el.length * sz)) (by rw [hsz]; simp; omega) (fun k u hk => by
                                rw [List.getElem?_take] at hk
                                split at hk
                                · rw [addr_add, Nat.zero_add, block_cell a2]; simpa using hk
                                · cases hk) ad xs.length c news (by rw [hsz]; exact n1) n2 (by omega) (by omega) (by rw [hby]; exact growslice_fits (by omega) hb)
                              rw [hr] at r1
                              simp only [Result.ok.injEq] at r1
                              rw [← r1.2]
                              exact alloc_old w.drew _ hBlt
                          unfold World.cell? at hcell ⊢
                          rw [hw2]; exact hcell
                    · unfold World.cell? at hcell ⊢
                      rw [hblk C hCl hC]; exact hcell
                  · rw [List.getElem?_set_self hblt] at hq
                    cases hq
                    refine ⟨_, setLoc_same _ _ _, rfl, by simp, rfl, h0, by simp; omega, by simpa [maxLen] using hcm, .inr ⟨G, cur, rfl, hg, hnc, hcs, fun m cs em => ?_, fun m cs j x v f1 f2 f3 => ?_, hMG⟩⟩
                    · rcases el_append em with ⟨_, h⟩ | ⟨_, h⟩
                      · rcases q8 with ⟨a1, rfl, _⟩ | ⟨B, vs, a1, a2, a3, a4, a5, a6, a7⟩
                        · simp at h
                        · exact a5 m cs h
                      · exact FR_all hall _ cs h
                    · rcases el_append f1 with ⟨hm, h⟩ | ⟨hm, h⟩
                      · rcases q8 with ⟨a1, rfl, _⟩ | ⟨B, vs, a1, a2, a3, a4, a5, a6, a7⟩
                        · simp at h
                        · have hj := (List.getElem?_eq_some_iff.1 f2).1
                          rw [a5 m cs h] at hj
                          rw [hold (m * sz + j) (mul_lt hm hj) B vs a1 a2] at f3
                          exact a6 m cs j x v h f2 f3
                      · have hj := (List.getElem?_eq_some_iff.1 f2).1
                        rw [FR_all hall _ cs h] at hj
                        have hm2 := (List.getElem?_eq_some_iff.1 h).1
                        obtain ⟨u', g1, g2⟩ := n4 _ cs j x h f2
                        have : m * sz + j = el.length * sz + ((m - el.length) * sz + j) := by
                          have : m * sz = el.length * sz + (m - el.length) * sz := by rw [← Nat.add_mul]; congr 1; omega
                          omega
                        rw [this, hnewc _ (mul_lt hm2 hj), g1] at f3
                        cases f3
                        exact g2
                · exact hs.turnNx b hx1 (fun x hx => setLoc_other _ _ hx) (fun l0 B e1 e2 => by
                    rw [setLoc_same] at e1
                    cases e1
                    cases e2
                    rcases hG with h | h
                    · exact .inl ⟨l, k1, h⟩
                    · exact .inr (by omega)) r3.os r3.tape r3.output r3.size (fun B hB h => hblk B hB (h l k1)) (fun _ _ _ h => .inl h)
          · cases h
        · cases h
      · cases h
    · cases h
  · cases h
end
end Go.Vm
/- Literals that are read alone; cuts of what is data. -/
namespace Go.Vm
open Go
section
variable {P : Program} {μ : Place} {M : Mem} {w : World} {H : Heap} {a : Act} {env : List AV}
theorem op_cutD {sz t e : Nat} {x : Arg} {y : Operand} {lo hi : Option Arg} {lo' hi' : Option Operand} {v : AV} {H' : Heap} (h : evOp (.cutD sz x lo hi) env H = some (v, H')) : evOp (.cut sz x lo hi) env H = some (v, H') := by
  simp only [evOp] at h ⊢
  split at h
  · rename_i u e
    rw [e]
    simp only [fz, fzN]
    split at h
    · rename_i xs e2
      rw [e2]
      exact h
    · cases h
  · cases h
theorem lit_run {t ty sz n : Nat} {zero : List FV} {parts : List (Nat × Arg)} {ps : Array (Nat × Operand)} {o : Oper} {i : TypeInfo} {z : Value} (ho : o.op = .buildSlice t n ps) (ht : P.underlying t = some (.slice ty)) (hi : P.info? ty = some i) (hz : i.zero = some z)
    (hzero : okCs zero z.cells.toList = true) (hsz : i.size = sz) (hzs : zero.length = sz) (h0 : 0 < sz) (hmax : n * sz ≤ 2 ^ 24) (hok : okP (fun i => some (i * sz, sz)) (parts.map fun (i, a) => (i * sz, sz, a)) ps.toList = true) (he : EnvR M μ a env) {cs : List AV}
    (e : fill env (parts.map fun (i, a) => (i * sz, sz, a)) ((List.replicate n (zero.map AV.d)).flatten) = some cs) :
    ∃ vs', (execOp a.eval o).run P w = .ok (.value (.slice (some ⟨w.heap.size, 0, none⟩) n n)) (w.alloc (.cells vs' ty)) ∧ VRs M μ vs' cs ∧ vs'.size = n * sz := by
  obtain ⟨z1, z2⟩ := okCs_sound (M := M) hzero
  have hzc : z.cells.size = zero.length := by simpa using z1
  have hv : VRs M μ ((Array.range (n * z.cells.size)).map (z.cells[· % z.cells.size]!)) ((List.replicate n (zero.map AV.d)).flatten) := zeros_VRs hzc (fun i v x e1 e2 => z2 i v x (by simpa using e1) e2) n (by omega)
  obtain ⟨vs', k1, k2, k3⟩ := fill_sound he _ ps.toList _ cs _ hok hv e
  have hlen : vs'.size = n * sz := by rw [k2.1, k3]; simp [hzs]
  refine ⟨vs', ?_, k2, hlen⟩
  have hn : n ≤ n * sz := Nat.le_mul_of_pos_right _ h0
  have hmax' : ¬ (n * sz > 2 ^ 24) := by omega
  have hsz' : (P.info? ty).map (·.size) = some sz := by simp [hi, hsz]
  have hzs' : z.cells.size = sz := by omega
  rw [hzs'] at k1
  simp only [execOp, ho, Instr.buildSlice, Sem.run_bind, Sem.run_ite, run_und ht, Result.andThen_ok, run_size hsz', if_neg hmax', Sem.run_pure, run_zero hi hz]
  by_cases hnz : n * sz = 0
  · have hn0 : n = 0 := by
      rcases Nat.mul_eq_zero.1 hnz with h | h
      · exact h
      · omega
    subst hn0
    have e0 : ∀ f : Nat → Value, (Array.range (0 * sz)).map f = #[] := fun f => by simp
    rw [e0] at k1
    have k2 : Instr.fill (fun i => some (i * sz, sz)) #[] (List.map (fun x => (x.fst, a.eval x.snd)) ps.toList) = some vs' := k1
    simp only [if_pos hnz, Result.andThen_ok, e0]
    rw [Array.toList_map, k2]
    simp [newRow]
  · have k2 : Instr.fill (fun i => some (i * sz, sz)) (Array.map (fun x => z.cells[x % sz]!) (Array.range (n * sz))) (List.map (fun x => (x.fst, a.eval x.snd)) ps.toList) = some vs' := k1
    simp only [if_neg hnz, Sem.run_bind, run_zero hi hz, Sem.run_pure, Result.andThen_ok, hzs']
    rw [Array.toList_map, k2]
    simp [newRow]
/-- a new block, written no more -/
theorem Sim.lay (hs : Sim μ M w H) (vs : Array Value) (ty : Nat) : Sim μ (fast M w.heap.size vs vs.size) (w.alloc (.cells vs ty)) H ∧ Nx μ M w H μ (fast M w.heap.size vs vs.size) (w.alloc (.cells vs ty)) H := by
  have hsz : w.heap.size ≤ (w.alloc (.cells vs ty)).heap.size := by show w.heap.size ≤ (w.heap.push _).size; simp
  have hext : Ext M μ (fast M w.heap.size vs vs.size) μ := ⟨fun b o v e => by
    have hb := hs.memlt e
    unfold fast
    rw [if_neg (fun h => by omega)]
    exact e, fun b l e => ⟨l, e, .inl rfl⟩⟩
  have hM : ∀ B, B < w.heap.size → ∀ o, fast M w.heap.size vs vs.size B o = M B o := fun B hB o => by
    unfold fast
    rw [if_neg (fun h => by omega)]
  refine ⟨⟨fun b o v e => ?_, hs.dom, fun b k hk => ?_, hs.apart⟩, ⟨hext, ⟨rfl, rfl, rfl, hsz, fun B hB _ => alloc_old w _ hB⟩, fun B h => .inl h, fun b o v e => ?_⟩⟩
  · by_cases hb : b = w.heap.size
    · subst hb
      rw [block_cell (alloc_new w (.cells vs ty))]
      unfold fast at e
      split at e
      · exact e
      · rw [hs.freshM] at e; cases e
    · have e' : M b o = some v := by
        unfold fast at e
        rw [if_neg (fun h => hb h.1)] at e
        exact e
      have := hs.mem b o v e'
      have hlt := hs.memlt e'
      unfold World.cell? at this ⊢
      simp only at this ⊢
      rw [alloc_old w _ hlt]
      exact this
  · exact (hs.blk b k hk).keep hext rfl fun l B h1 h2 => by
      have hB := (hs.lt h1 h2).2
      exact ⟨alloc_old w _ hB, fun o h => by rw [hM B hB]; exact h⟩
  · by_cases hb : b = w.heap.size
    · exact .inr (.inr (by omega))
    · unfold fast at e
      rw [if_neg (fun h => hb h.1)] at e
      exact .inl e
theorem op_litF {t ty sz n : Nat} {zero : List FV} {parts : List (Nat × Arg)} {ps : Array (Nat × Operand)} {o : Oper} {i : TypeInfo} {z : Value} (ho : o.op = .buildSlice t n ps) (ht : P.underlying t = some (.slice ty)) (hi : P.info? ty = some i) (hz : i.zero = some z)
    (hzero : okCs zero z.cells.toList = true) (hsz : i.size = sz) (hzs : zero.length = sz) (h0 : 0 < sz) (hmax : n * sz ≤ 2 ^ 24) (hok : okP (fun i => some (i * sz, sz)) (parts.map fun (i, a) => (i * sz, sz, a)) ps.toList = true) (hs : Sim μ M w H) (he : EnvR M μ a env) {v : AV} {H' : Heap}
    (h : evOp (.litF ty sz n zero parts) env H = some (v, H')) : Post μ M w H v H' ((execOp a.eval o).run P w) := by
  simp only [evOp] at h
  split at h
  · rename_i cs e
    split at h
    · rename_i fs e2
      simp only [Option.some.injEq, Prod.mk.injEq] at h
      obtain ⟨rfl, rfl⟩ := h
      obtain ⟨vs', k1, k2, k3⟩ := lit_run (w := w) ho ht hi hz hzero hsz hzs h0 hmax hok he e
      obtain ⟨q1, q2⟩ := hs.lay vs' ty
      obtain ⟨f1, f2⟩ := toFVs_get e2
      refine ⟨_, _, μ, _, .inl k1, .d ?_, q1, q2⟩
      by_cases hn : n = 0
      · subst hn
        simp only [if_true]
        exact .emp _
      · simp only [hn, if_false]
        have hfs : (fs.map FV.norm).length = n * sz := by rw [List.length_map, f1, ← k2.1, k3]
        have hel : ∀ (i : Nat) (cs : List FV), ((List.range n).map fun i => ((fs.map FV.norm).drop (i * sz)).take sz)[i]? = some cs → i < n ∧ cs = ((fs.map FV.norm).drop (i * sz)).take sz := fun i cs e => by
          rw [List.getElem?_map] at e
          by_cases hi : i < n
          · rw [List.getElem?_range hi] at e; simp at e; exact ⟨hi, e.symm⟩
          · rw [List.getElem?_eq_none (by simpa using hi)] at e; cases e
        have hle : ∀ i, i < n → i * sz + sz ≤ n * sz := fun i hi => by
          calc i * sz + sz = (i + 1) * sz := by rw [Nat.add_mul, Nat.one_mul]
            _ ≤ n * sz := Nat.mul_le_mul_right _ (by omega)
        have hcell : ∀ (i : Nat) (cs : List FV) (j : Nat) (x : FV), ((List.range n).map fun i => ((fs.map FV.norm).drop (i * sz)).take sz)[i]? = some cs → cs[j]? = some x → ∃ v, vs'[i * sz + j]? = some v ∧ i * sz + j < n * sz ∧ FR M v x := fun i cs j x e1 e2 => by
          obtain ⟨hi, rfl⟩ := hel i cs e1
          rw [List.getElem?_take] at e2
          split at e2
          · rename_i hj
            rw [List.getElem?_drop, List.getElem?_map, Option.map_eq_some_iff] at e2
            obtain ⟨y, e3, rfl⟩ := e2
            have hlt : i * sz + j < n * sz := by have := hle i hi; omega
            have hv : vs'[i * sz + j]? = some (vs'[i * sz + j]'(by omega)) := by simp [show i * sz + j < vs'.size by omega]
            exact ⟨_, hv, hlt, (k2.2 _ _ _ hv (f2 _ _ e3)).d_inv.norm⟩
          · cases e2
        have hlen : ((List.range n).map fun i => ((fs.map FV.norm).drop (i * sz)).take sz).length = n := by simp
        have := FR.sl (M := fast M w.heap.size vs' vs'.size) w.heap.size 0 n sz (fun i j => (vs'[i * sz + j]?).getD undef) ((List.range n).map fun i => ((fs.map FV.norm).drop (i * sz)).take sz)
          (fun h => by rw [h] at hlen; simp at hlen; omega) (by rw [hlen]; exact Nat.le_refl _) (fun i cs e => by
            obtain ⟨hi, rfl⟩ := hel i cs e
            have := hle i hi
            simp at hfs
            simp; omega) (fun i cs j x e1 e2 => by
            obtain ⟨v, g1, g2, _⟩ := hcell i cs j x e1 e2
            unfold fast
            rw [Nat.zero_add, if_pos ⟨rfl, by omega⟩, g1]
            rfl) (fun i cs j x e1 e2 => by
            obtain ⟨v, g1, g2, g3⟩ := hcell i cs j x e1 e2
            rw [g1]
            exact g3.ext q2.ext.mem)
        rw [hlen] at this
        exact this
    · cases h
  · cases h
theorem op_frz {x : Arg} {y : Operand} {o : Oper} (ho : o.op = .move y ∨ o.op = .assign y) (hok : okA x y = true) (hs : Sim μ M w H) (he : EnvR M μ a env) {v : AV} {H' : Heap}
    (h : evOp (.frz x) env H = some (v, H')) : Post μ M w H v H' ((execOp a.eval o).run P w) := by
  simp only [evOp] at h
  split at h
  · rename_i u H1 e
    simp only [Option.some.injEq, Prod.mk.injEq] at h
    obtain ⟨rfl, rfl⟩ := h
    obtain ⟨M1, k1, k2⟩ := fz_sound _ _ _ _ _ _ _ _ hs (he.arg hok) e
    exact ⟨a.eval y, w, μ, M1, .inl (by rcases ho with ho | ho <;> simp [execOp, ho]), .d k1, k2.sim, k2.nx⟩
  · cases h
end
end Go.Vm
/- Rows of rows. -/
namespace Go.Vm
open Go
section
variable {P : Program} {μ : Place} {M : Mem} {w : World} {H : Heap} {a : Act} {env : List AV}
theorem flat_one {α : Type} (x : α) : ∀ n, (List.replicate n [x]).flatten = List.replicate n x
  | 0 => rfl
  | n + 1 => by simp [List.replicate_succ, flat_one x n]
theorem op_lits {t ty n : Nat} {parts : List (Nat × Arg)} {ps : Array (Nat × Operand)} {o : Oper} {i : TypeInfo} {z : Value} (ho : o.op = .buildSlice t n ps) (ht : P.underlying t = some (.slice ty)) (hi : P.info? ty = some i) (hz : i.zero = some z)
    (hzero : okCs [.nil] z.cells.toList = true) (hsz : i.size = 1) (hmax : n ≤ 2 ^ 24) (hok : okP (fun i => some (i * 1, 1)) (parts.map fun (i, a) => (i * 1, 1, a)) ps.toList = true) (hs : Sim μ M w H) (he : EnvR M μ a env) {v : AV} {H' : Heap}
    (h : evOp (.lits ty n parts) env H = some (v, H')) : Post μ M w H v H' ((execOp a.eval o).run P w) := by
  simp only [evOp] at h
  split at h
  · rename_i cs e
    simp only [Option.some.injEq, Prod.mk.injEq] at h
    obtain ⟨rfl, rfl⟩ := h
    have e' : fill env (parts.map fun (i, a) => (i * 1, 1, a)) ((List.replicate n ([FV.nil].map AV.d)).flatten) = some cs := by
      have h1 : (parts.map fun (i, a) => (i * 1, 1, a)) = parts.map fun (i, a) => (i, 1, a) := by simp
      rw [h1]
      have h2 : (List.replicate n ([FV.nil].map AV.d)).flatten = List.replicate n (AV.d .nil) := flat_one _ n
      rw [h2]
      exact e
    obtain ⟨vs', k1, k2, k3⟩ := lit_run (w := w) ho ht hi hz hzero hsz rfl (Nat.lt_succ_self 0) (by omega) hok he e'
    have hn : n = cs.length := by rw [← k2.1, k3]; omega
    obtain ⟨l, r1, r2, r3⟩ := hs.rows ty n n cs vs' hn (Nat.le_refl _) (by omega) (by omega) fun i x v e1 e2 => k2.2 i v x e2 e1
    exact ⟨_, _, _, M, .inl k1, r3, r1, r2⟩
  · cases h
theorem op_mkrows {t ty bytes : Nat} {n c : Arg} {yn yc : Operand} {o : Oper} {i : TypeInfo} {z : Value} (ho : o.op = .makeSlice t yn yc) (hn : okA n yn = true) (hc : okA c yc = true) (ht : P.underlying t = some (.slice ty)) (hi : P.info? ty = some i) (hz : i.zero = some z)
    (hzero : okCs [.nil] z.cells.toList = true) (hsz : i.size = 1) (hby : i.bytes = bytes) (hb0 : 0 < bytes) (hs : Sim μ M w H) (he : EnvR M μ a env) {v : AV} {H' : Heap}
    (h : evOp (.mkrows ty bytes n c) env H = some (v, H')) : Post μ M w H v H' ((execOp a.eval o).run P w) := by
  simp only [evOp] at h
  split at h
  · rename_i m q e1 e2
    split at h
    · rename_i hb
      obtain ⟨b1, b2, b3⟩ := hb
      simp only [maxBytes] at b3
      simp only [Option.some.injEq, Prod.mk.injEq] at h
      obtain ⟨rfl, rfl⟩ := h
      obtain ⟨k1, f1⟩ := intOf_inv (he.arg hn) e1
      obtain ⟨k2, f2⟩ := intOf_inv (he.arg hc) e2
      obtain ⟨z1, z2⟩ := okCs_sound (M := M) hzero
      have hzc : z.cells.size = 1 := by simpa using z1
      have hrun := run_make ht hi hz hsz hby hb0 (Nat.lt_succ_self 0) (by omega) b1 b2 b3 (k := k1) (k' := k2) w
      have hq : q ≤ 140737488355328 := by
        have : q * 1 ≤ q * bytes := Int.mul_le_mul_of_nonneg_left (by omega) (by omega)
        omega
      obtain ⟨l, r1, r2, r3⟩ := hs.rows ty m.toNat q.toNat (List.replicate m.toNat (.d .nil)) ((Array.range (q.toNat * z.cells.size)).map (z.cells[· % z.cells.size]!)) (by simp) (by omega) (by omega) (by simp [hzc])
        (fun i x v e1 e3 => by
          rw [List.getElem?_replicate] at e1
          split at e1
          · cases e1
            rw [zeros_get _ _ (by omega)] at e3
            split at e3
            · rw [hzc, Nat.mod_one] at e3
              exact .d (z2 0 v _ (by simpa using e3) rfl)
            · cases e3
          · cases e1)
      exact ⟨_, _, _, M, .inl (by simp [execOp, ho, f1, f2, hrun]), r3, r1, r2⟩
    · cases h
  · cases h
end
end Go.Vm
/- Append to rows of rows. -/
namespace Go.Vm
open Go
section
variable {P : Program} {μ : Place} {M : Mem} {w : World} {H : Heap} {a : Act} {env : List AV}
theorem nested_news (hs : Sim μ M w H) {v : Value} {x : AV} (hv : VR M μ v x) {xs : List AV} (h : nested x H = some xs) (hone : xs.all one = true) :
    ∃ A c, v = .slice A xs.length c ∧ (xs ≠ [] → ∃ (ad : Addr) (news : List Value), A = some ad ∧ news.length = xs.length ∧ (∀ (j : Nat) (u : Value), news[j]? = some u → w.cell? (ad.add j) = some u) ∧ (∀ u ∈ news, u.oneCell' = true) ∧ ∀ (i : Nat) (u : Value) (y : AV), news[i]? = some u → xs[i]? = some y → VR M μ u y) := by
  unfold nested at h
  split at h
  · rename_i b g
    split at h
    · rename_i ty el g' p e
      split at h
      · rename_i hg
        subst hg
        cases h
        obtain ⟨l, k1, k2, k3⟩ := hv.row_cur hs (by simp [genOf, e])
        obtain ⟨l', q1, q2, q3, q4, q6, q7, q8⟩ := hs.blk b _ e
        rw [k1] at q1
        cases q1
        rcases q8 with ⟨a1, rfl, a3⟩ | ⟨B, vs, a1, a2, a3, a4, a6, a7⟩
        · exact ⟨none, l.cap, by rw [k3, Loc.val, a1, q3]; rfl, fun h => absurd rfl h⟩
        · have hle : xs.length ≤ vs.size := by omega
          have hval : ∀ (i : Nat) (u : Value), (vs.toList.take xs.length)[i]? = some u → i < xs.length ∧ vs[i]? = some u := fun i u e => by
            rw [List.getElem?_take] at e
            split at e
            · rename_i hi; exact ⟨hi, by simpa using e⟩
            · cases e
          refine ⟨some ⟨B, 0, none⟩, l.cap, by rw [k3, Loc.val, a1, q3]; rfl, fun hne => ⟨⟨B, 0, none⟩, vs.toList.take xs.length, rfl, by simp; omega, fun j z e => ?_, fun z hz => ?_, fun i u y e1 e2 => ?_⟩⟩
          · obtain ⟨_, h2⟩ := hval j z e
            rw [addr_add, Nat.zero_add, block_cell a2]; exact h2
          · obtain ⟨k, hk⟩ := List.getElem?_of_mem hz
            obtain ⟨h1, h2⟩ := hval k z hk
            have hx : xs[k]? = some xs[k] := by simp [h1]
            exact (a6 k _ z hx h2).one (List.all_eq_true.1 hone _ (List.getElem_mem h1))
          · exact a6 i y u e2 (hval i u e1).2
      · cases h
    · cases h
  · cases h
theorem op_appN {s x : Arg} {y u : Operand} {o : Oper} {t ty bytes : Nat} {i : TypeInfo} {z : Value} (ho : o.op = .call { callee := .builtin .append, args := #[y, u], argTypes := #[t, t] }) (hok : okA s y = true) (hox : okA x u = true) (ht : P.underlying t = some (.slice ty)) (hi : P.info? ty = some i) (hz : i.zero = some z)
    (hsz : i.size = 1) (hby : i.bytes = bytes) (hzs : z.cells.size = 1) (hb0 : 0 < bytes) (hs : Sim μ M w H) (he : EnvR M μ a env) {v : AV} {H' : Heap}
    (h : evOp (.appN ty bytes s x) env H = some (v, H')) : Post μ M w H v H' ((execOp a.eval o).run P w) := by
  have hv := he.arg hok
  have hx := he.arg hox
  simp only [evOp] at h
  split at h
  · rename_i xs e0
    split at h
    · rename_i e1
      rw [e1] at hv
      have hnil := hv.nil_inv
      split at h
      · rename_i hb
        obtain ⟨hb, hone⟩ := hb
        obtain ⟨A, c, hxv, hnews⟩ := nested_news hs hx e0 hone
        simp only [maxBytes] at hb
        simp only [Option.some.injEq, Prod.mk.injEq] at h
        obtain ⟨rfl, rfl⟩ := h
        by_cases hne : xs = []
        · subst hne
          obtain ⟨k1, k2⟩ := hs.new (w' := w) ⟨none, 0, 0, 1, 0⟩ (.rows ty [] 0 0) (fun B h => by cases h) rfl rfl rfl (Nat.le_refl _) (fun _ _ => rfl)
            ⟨_, setLoc_same _ _ _, rfl, rfl, rfl, Nat.le_refl _, by simp, .inl ⟨rfl, rfl, rfl⟩⟩
          have := run_app_none (P := P) (ty := o.type) ht hi none A 0 0 c (Nat.le_refl _) w
          rw [← hnil] at this
          simp only [List.length_nil] at hxv
          rw [← hxv] at this
          exact ⟨_, w, _, M, .inl (op_app_run ho this), by rw [hnil]; exact .row _ _ _ _ (setLoc_same _ _ _) (Nat.le_refl _) ⟨_, _, _, rfl⟩ fun _ => rfl, k1, k2⟩
        · obtain ⟨ad, news, rfl, n1, n2, n3, n4⟩ := hnews hne
          obtain ⟨v', w', r1, r2, r3, r4, r5⟩ := run_append_own_at w 0 t o.type ty i z 1 bytes ht hi hz hsz hby hzs (Nat.lt_succ_self 0) (.slice none 0 0) 0 [] (World.ownsRow_nil w 0 ty 1) ad xs.length c news (by omega) n2 n3 (by
            have : xs.length * 1 ≤ xs.length * bytes := Nat.mul_le_mul_left _ hb0
            simp only [maxLen]; omega) (by simpa using hb) (Nat.zero_le _)
          have hlen : 0 < xs.length := by cases xs with | nil => exact absurd rfl hne | cons => simp
          rw [← hnil, ← hxv] at r1
          simp only [Nat.zero_add, List.nil_append] at r2
          rcases r2.2 with ⟨rfl, h'⟩ | ⟨g, cap, cur, rfl, _, hg, hnc, hcm, hcs, htake⟩
          · omega
          · have hgs : g = w.heap.size := by
              rcases r5 with h | h
              · simp [Value.ownBlock] at h
              · simpa [Value.ownBlock] using h
            subst hgs
            have he' := Ext.new hs ⟨some w.heap.size, xs.length, cap, 1, 0⟩
            obtain ⟨k1, k2⟩ := hs.new (w' := w') ⟨some w.heap.size, xs.length, cap, 1, 0⟩ (.rows ty xs 0 0) (fun B h => by cases h; exact Nat.le_refl _) r3.os r3.tape r3.output r3.size (fun B hB => r3.block B hB (by simp [Value.ownBlock]))
              ⟨_, setLoc_same _ _ _, rfl, rfl, rfl, Nat.zero_le _, by simpa [maxLen] using hcm, .inr ⟨w.heap.size, cur, rfl, hg, hnc, by show cur.size = cap; omega, fun i x v e1 e3 => by
                have hi := (List.getElem?_eq_some_iff.1 e1).1
                have : news[i]? = some v := by
                  rw [← htake, List.getElem?_take, if_pos (by omega)]
                  simpa using e3
                exact (n4 i v x this e1).ext he', fun o _ => hs.freshM o⟩⟩
            exact ⟨_, w', _, M, .inl (op_app_run ho r1), .row _ _ _ _ (setLoc_same _ _ _) (Nat.le_refl _) ⟨_, _, _, rfl⟩ fun _ => rfl, k1, k2⟩
      · cases h
    · rename_i b g e1
      rw [e1] at hv
      split at h
      · rename_i ty' el g' p e2
        split at h
        · rename_i hb
          obtain ⟨rfl, rfl, hb, hone⟩ := hb
          obtain ⟨A, c, hxv, hnews⟩ := nested_news hs hx e0 hone
          simp only [maxBytes] at hb
          simp only [Option.some.injEq, Prod.mk.injEq] at h
          obtain ⟨rfl, rfl⟩ := h
          obtain ⟨l, k1, k2, k3⟩ := hv.row_cur hs (by simp [genOf, e2])
          obtain ⟨l', q1, q2, q3, q4, q6, q7, q8⟩ := hs.blk b _ e2
          rw [k1] at q1
          cases q1
          have hblt : b < H.length := (List.getElem?_eq_some_iff.1 e2).1
          have hext : ∀ l' : Loc, l'.g = g + 1 → Ext M μ M (setLoc μ b l') := fun l' hl' => ⟨fun _ _ _ h => h, fun x lx hx => by
            by_cases hxb : x = b
            · subst hxb
              rw [k1] at hx
              cases hx
              exact ⟨l', setLoc_same _ _ _, .inr (by omega)⟩
            · exact ⟨lx, by rw [setLoc_other _ _ hxb]; exact hx, .inl rfl⟩⟩
          have hown : w.ownsRow 0 ty 1 l.val el.length (match l.ad with | none => [] | some B => (match w.heap[B]? with | some (.cells vs _ _) => vs.toList.take el.length | _ => [])) := by
            rcases q8 with ⟨a1, rfl, a3⟩ | ⟨B, vs, a1, a2, a3, a4, a6, a7⟩
            · simp only [a1]
              exact ⟨by simp, .inl ⟨by simp [Loc.val, a1, q3, a3], rfl⟩⟩
            · simp only [a1, a2]
              have hle : el.length ≤ vs.size := by omega
              exact ⟨by simp; omega, .inr ⟨B, l.cap, vs, by simp [Loc.val, a1, q3], Nat.zero_le _, a2, by omega, by simpa [maxLen] using q7, by omega, by simp⟩⟩
          by_cases hne : xs = []
          · subst hne
            simp only [List.length_nil] at hxv
            have hc : l.n ≤ l.cap := by
              rcases q8 with ⟨a1, rfl, a3⟩ | ⟨B, vs, a1, a2, a3, _⟩
              · simp [q3]
              · exact a3
            have hrun := run_app_none (P := P) (ty := o.type) ht hi (l.ad.map (⟨·, 0, none⟩)) A l.n l.cap c hc w
            rw [← hxv] at hrun
            have hvv : a.eval y = .slice (l.ad.map (⟨·, 0, none⟩)) l.n l.cap := k3
            rw [← hvv] at hrun
            have hx1 := hext { l with g := g + 1 } rfl
            refine ⟨_, w, setLoc μ b { l with g := g + 1 }, M, .inl (op_app_run ho hrun), .row _ _ _ _ (setLoc_same _ _ _) (Nat.le_refl _) ⟨_, _, _, hvv⟩ fun _ => k3, ?_, ?_⟩
            · refine hs.turn b hx1 (fun x hx => by rw [setLoc_other _ _ (by simp at hx; omega)]; exact hs.dom x (by simpa using hx)) hs.mem (fun x hx => getElem?_set_ne' _ _ _ _ hx) (fun x hx => setLoc_other _ _ hx) (fun q hq => ?_) (fun l0 B e1 e2 => by rw [setLoc_same] at e1; cases e1; exact .inl ⟨l, k1, e2⟩) (fun x l0 B _ _ _ => ⟨rfl, fun _ h => h⟩)
              rw [List.getElem?_set_self hblt] at hq
              cases hq
              refine ⟨_, setLoc_same _ _ _, rfl, by simpa using q3, q4, by simpa using q6, q7, ?_⟩
              rcases q8 with ⟨a1, rfl, a3⟩ | ⟨B, vs, a1, a2, a3, a4, a6, a7⟩
              · exact .inl ⟨a1, by simp, a3⟩
              · exact .inr ⟨B, vs, a1, a2, a3, a4, fun i x v e1 e2 => (a6 i x v (by simpa using e1) e2).ext hx1, a7⟩
            · exact hs.turnNx b hx1 (fun x hx => setLoc_other _ _ hx) (fun l0 B e1 e2 => by rw [setLoc_same] at e1; cases e1; exact .inl ⟨l, k1, e2⟩) rfl rfl rfl (Nat.le_refl _) (fun _ _ _ => rfl) (fun _ _ _ h => .inl h)
          · obtain ⟨ad, news, rfl, n1, n2, n3, n4⟩ := hnews hne
            have hlen : 0 < xs.length := by cases xs with | nil => exact absurd rfl hne | cons => simp
            have hsum : el.length + xs.length ≤ 140737488355328 := by
              have : (el.length + xs.length) * 1 ≤ (el.length + xs.length) * bytes := Nat.mul_le_mul_left _ hb0
              omega
            obtain ⟨v', w', r1, r2, r3, r4, r5⟩ := run_append_own_at w 0 t o.type ty i z 1 bytes ht hi hz hsz hby hzs (Nat.lt_succ_self 0) l.val el.length _ hown ad xs.length c news (by omega) n2 n3 (by simp only [maxLen]; omega) hb (Nat.zero_le _)
            rw [← k3, ← hxv] at r1
            rcases r2.2 with ⟨rfl, h'⟩ | ⟨G, cap, cur, rfl, _, hg, hnc, hcm, hcs, htake⟩
            · omega
            · have hblk : ∀ B, B < w.heap.size → l.ad ≠ some B → w'.heap[B]? = w.heap[B]? := fun B hB hne' => r3.block B hB (by
                cases had : l.ad with
                | none => simp [Loc.val, had, Value.ownBlock]
                | some C => simp [Loc.val, had, Value.ownBlock]; exact fun e => hne' (by rw [had, e]))
              have hG : l.ad = some G ∨ G = w.heap.size := by
                rcases r5 with h | h
                · left
                  cases had : l.ad with
                  | none => simp [Loc.val, had, Value.ownBlock] at h
                  | some C => simp [Loc.val, had, Value.ownBlock] at h; rw [h]
                · right; simpa [Value.ownBlock] using h
              have hx1 := hext ⟨some G, el.length + xs.length, cap, 1, g + 1⟩ rfl
              have hMG : ∀ o, p ≤ o → M G o = none := fun o ho' => by
                rcases hG with h | h
                · rcases q8 with ⟨a1, _, _⟩ | ⟨B, vs, a1, a2, a3, a4, a6, a7⟩
                  · rw [a1] at h; cases h
                  · rw [a1] at h; cases h; exact a7 o ho'
                · subst h; exact hs.freshM o
              have hold : ∀ k, k < el.length → ∀ B vs, l.ad = some B → w.heap[B]? = some (.cells vs ty (0, 0)) → cur[k]? = vs[k]? := fun k hk B vs hB hvs => by
                have : (cur.toList.take ((el.length + xs.length) * 1))[k]? = (vs.toList.take el.length ++ news)[k]? := by
                  rw [htake]; simp [hB, hvs]
                have hle : el.length ≤ vs.size := by
                  rcases q8 with ⟨a1, _, _⟩ | ⟨B', vs', a1, a2, a3, a4, _⟩
                  · rw [a1] at hB; cases hB
                  · rw [a1] at hB; cases hB
                    rw [a2] at hvs; cases hvs
                    omega
                rw [List.getElem?_take, if_pos (by omega), List.getElem?_append_left (by simp; omega), List.getElem?_take, if_pos hk] at this
                simpa using this
              have hnewc : ∀ k, k < xs.length → cur[el.length + k]? = news[k]? := fun k hk => by
                have hl2 := hown.1
                have : (cur.toList.take ((el.length + xs.length) * 1))[el.length + k]? = _ := congrArg (fun l : List Value => l[el.length + k]?) htake
                rw [List.getElem?_take, if_pos (by omega), List.getElem?_append_right (by omega), hl2, show el.length + k - el.length * 1 = k by omega] at this
                simpa using this
              refine ⟨_, w', setLoc μ b ⟨some G, el.length + xs.length, cap, 1, g + 1⟩, M, .inl (op_app_run ho r1), .row _ _ _ _ (setLoc_same _ _ _) (Nat.le_refl _) ⟨_, _, _, rfl⟩ fun _ => rfl, ?_, ?_⟩
              · refine hs.turn b hx1 (fun x hx => by rw [setLoc_other _ _ (by simp at hx; omega)]; exact hs.dom x (by simpa using hx)) (fun C off v em => ?_) (fun x hx => getElem?_set_ne' _ _ _ _ hx) (fun x hx => setLoc_other _ _ hx) (fun q hq => ?_) (fun l0 B e1 e2 => by
                  rw [setLoc_same] at e1
                  cases e1
                  cases e2
                  rcases hG with h | h
                  · exact .inl ⟨l, k1, h⟩
                  · exact .inr (by omega)) (fun x l0 B hxb e1 e3 => ⟨hblk B (hs.lt e1 e3).2 (fun e => hs.apart x b l0 l B (hs.lt e1 e3).1 hblt hxb e1 k1 e3 e), fun _ h => h⟩)
                · have hCl := hs.memlt em
                  have hcell := hs.mem C off v em
                  by_cases hC : l.ad = some C
                  · rcases q8 with ⟨a1, _, _⟩ | ⟨B, vs, a1, a2, a3, a4, a6, a7⟩
                    · rw [a1] at hC; cases hC
                    · rw [a1] at hC
                      cases hC
                      have ho' : off < p := by
                        rcases Nat.lt_or_ge off p with h | h
                        · exact h
                        · rw [a7 off h] at em; cases em
                      rcases hG with h | h
                      · rw [a1] at h
                        cases h
                        rw [block_cell hg, hold off (by omega) G vs a1 a2, ← block_cell a2]
                        exact hcell
                      · have hBlt : C < w.heap.size := (Array.getElem?_eq_some_iff.1 a2).1
                        have hlv : l.val = .slice (some ⟨C, 0, none⟩) el.length l.cap := by simp [Loc.val, a1, q3]
                        have hvle : el.length ≤ vs.size := by omega
                        rw [hxv, k3, hlv] at r1
                        have hw2 : w'.heap[C]? = w.heap[C]? := by
                          by_cases hroom : el.length + xs.length ≤ l.cap
                          · have hr := run_append_room (P := P) w t o.type ty i ht hi C el.length l.cap vs a2 ad xs.length c news (by rw [hsz]; omega) n2 n3 hroom (by rw [hsz]; omega)
                            rw [hr] at r1
                            simp only [Result.ok.injEq, Value.slice.injEq, Option.some.injEq, Addr.mk.injEq] at r1
                            omega
                          · have hr := run_append_grow (P := P) w t o.type ty i z ht hi hz ⟨C, 0, none⟩ el.length l.cap (vs.toList.take el.length) (by rw [hsz]; simp; omega) (fun k u hk => by
                              rw [List.getElem?_take] at hk
                              split at hk
                              · rw [addr_add, Nat.zero_add, block_cell a2]; simpa using hk
                              · cases hk) ad xs.length c news (by rw [hsz]; omega) n2 (by omega) (by omega) (by rw [hby]; exact growslice_fits (by omega) hb)
                            rw [hr] at r1
                            simp only [Result.ok.injEq] at r1
                            rw [← r1.2]
                            exact alloc_old w.drew _ hBlt
                        unfold World.cell? at hcell ⊢
                        rw [hw2]; exact hcell
                  · unfold World.cell? at hcell ⊢
                    rw [hblk C hCl hC]; exact hcell
                · rw [List.getElem?_set_self hblt] at hq
                  cases hq
                  refine ⟨_, setLoc_same _ _ _, rfl, by simp, rfl, by simp; omega, by simpa [maxLen] using hcm, .inr ⟨G, cur, rfl, hg, hnc, by show cur.size = cap; omega, fun m x v f1 f3 => ?_, hMG⟩⟩
                  rcases Nat.lt_or_ge m el.length with hm | hm
                  · rw [List.getElem?_append_left hm] at f1
                    rcases q8 with ⟨a1, rfl, _⟩ | ⟨B, vs, a1, a2, a3, a4, a6, a7⟩
                    · simp at hm
                    · rw [hold m hm B vs a1 a2] at f3
                      exact (a6 m x v f1 f3).ext hx1
                  · rw [List.getElem?_append_right hm] at f1
                    have hi := (List.getElem?_eq_some_iff.1 f1).1
                    have := hnewc (m - el.length) hi
                    rw [show el.length + (m - el.length) = m by omega, f3] at this
                    exact (n4 (m - el.length) v x this.symm f1).ext hx1
              · exact hs.turnNx b hx1 (fun x hx => setLoc_other _ _ hx) (fun l0 B e1 e2 => by
                  rw [setLoc_same] at e1
                  cases e1
                  cases e2
                  rcases hG with h | h
                  · exact .inl ⟨l, k1, h⟩
                  · exact .inr (by omega)) r3.os r3.tape r3.output r3.size (fun B hB hne' => hblk B hB (fun e => hne' l k1 e)) (fun _ _ _ h => .inl h)
        · cases h
      · cases h
    · cases h
  · cases h
end
end Go.Vm
/- Type assertions, min of three, floats' bits. -/
namespace Go.Vm
open Go
section
variable {P : Program} {μ : Place} {M : Mem} {w : World} {H : Heap} {a : Act} {env : List AV}
/-- a type's zero value, as it stands -/
def zeroIs (agg : Bool) (zero : List FV) : Value → Bool
  | .agg cs => agg && okCs zero cs.toList
  | v => !agg && okCs zero [v]
def zeroAV (agg : Bool) (zero : List FV) : AV := if agg then .agg (zero.map .d) else .d (zero.getD 0 .nil)
theorem zeroIs_sound {agg : Bool} {zero : List FV} {z : Value} (h : zeroIs agg zero z = true) : VR M μ z (zeroAV agg zero) := by
  unfold zeroIs at h
  split at h
  · rename_i cs
    simp only [Bool.and_eq_true] at h
    obtain ⟨rfl, h2⟩ := h
    obtain ⟨z1, z2⟩ := okCs_sound (M := M) h2
    unfold zeroAV
    rw [if_pos rfl]
    refine .agg _ _ (by simpa using z1) fun i v x e1 e2 => ?_
    rw [List.getElem?_map] at e2
    cases hz : zero[i]? with
    | none => rw [hz] at e2; cases e2
    | some y => rw [hz] at e2; cases e2; exact .d (z2 i v y (by simpa using e1) hz)
  · simp only [Bool.and_eq_true, Bool.not_eq_true'] at h
    obtain ⟨rfl, h2⟩ := h
    obtain ⟨z1, z2⟩ := okCs_sound (M := M) h2
    cases zero with
    | nil => simp at z1
    | cons y r => exact .d (z2 0 z y rfl rfl)
def notIface : TypeDesc → Bool
  | .interface _ => false
  | _ => true
theorem op_tassert {x : Arg} {y : Operand} {o : Oper} {xT t : Nat} {agg : Bool} {zero : List FV} {d : TypeDesc} {i : TypeInfo} {z : Value} (ho : o.op = .typeAssert y xT t true) (hok : okA x y = true) (ht : P.underlying t = some d)
    (hd : notIface d = true) (hi : P.info? t = some i) (hz : i.zero = some z) (hzero : zeroIs agg zero z = true) (hs : Sim μ M w H) (he : EnvR M μ a env) {v : AV} {H' : Heap}
    (h : evOp (.tassert t agg zero x) env H = some (v, H')) : Post μ M w H v H' ((execOp a.eval o).run P w) := by
  have hx := he.arg hok
  have hzv : (zeroValue t).run P w = .ok z w := by simp [zeroValue, typeInfo, hi, hz, Sem.run]
  have hZ : VR M μ z (if agg then AV.agg (zero.map .d) else .d (zero.getD 0 .nil)) := zeroIs_sound hzero
  have two : ∀ {u : Value} {x : AV} {b : Bool}, VR M μ u x → VR M μ (.tuple #[u, .bool b]) (.tup [x, .d (.bool b)]) := fun {u x b} hu =>
    .tup _ _ rfl fun i v y e1 e2 => by
      match i with
      | 0 => simp at e1 e2; subst e1; subst e2; exact hu
      | 1 => simp at e1 e2; subst e1; subst e2; exact .d (.bool _)
      | n + 2 => simp at e1
  simp only [evOp] at h
  split at h
  · rename_i t' u e1
    rw [e1] at hx
    cases hv : a.eval y with
    | iface t1 v1 =>
      rw [hv] at hx
      have ⟨e2, hu⟩ : t1 = t' ∧ VR M μ v1 u := by cases hx with | iface _ _ _ q => exact ⟨rfl, q⟩
      subst e2
      simp only [Option.some.injEq, Prod.mk.injEq] at h
      obtain ⟨rfl, rfl⟩ := h
      by_cases e : t1 = t
      · rw [if_pos e]
        refine .pure hs (two hu) ?_
        cases d <;> simp_all [notIface, execOp, Instr.typeAssert, run_und ht]
      · rw [if_neg e]
        refine .pure hs (two hZ) ?_
        cases d <;> simp_all [notIface, execOp, Instr.typeAssert, run_und ht]
    | _ => rw [hv] at hx; cases hx
  · rename_i e1
    rw [e1] at hx
    simp only [Option.some.injEq, Prod.mk.injEq] at h
    obtain ⟨rfl, rfl⟩ := h
    have hv : a.eval y = .nilIface := by
      have := hx.d_inv
      generalize a.eval y = q at this
      cases this; rfl
    refine .pure hs (two hZ) ?_
    cases d <;> simp_all [notIface, execOp, Instr.typeAssert, run_und ht]
  · cases h
theorem op_mn3 {x x2 x3 : Arg} {y y2 y3 : Operand} {o : Oper} {ts : Array TypeId} (ho : o.op = .call { callee := .builtin .min, args := #[y, y2, y3], argTypes := ts }) (h1 : okA x y = true) (h2 : okA x2 y2 = true) (h3 : okA x3 y3 = true) (hs : Sim μ M w H) (he : EnvR M μ a env) {v : AV} {H' : Heap}
    (h : evOp (.mn3 x x2 x3) env H = some (v, H')) : Post μ M w H v H' ((execOp a.eval o).run P w) := by
  have hx := he.arg h1
  have hx2 := he.arg h2
  have hx3 := he.arg h3
  simp only [evOp] at h
  split at h
  · rename_i k m k2 n k3 q e1 e2 e3
    simp only [Option.some.injEq, Prod.mk.injEq] at h
    obtain ⟨rfl, rfl⟩ := h
    rw [e1] at hx
    rw [e2] at hx2
    rw [e3] at hx3
    refine .pure (v := .int k (if q < (if n < m then n else m) then q else if n < m then n else m)) hs (.d (.int _ _)) ?_
    simp [execOp, ho, resolve, invoke, builtin, Builtin.min_, Builtin.min2, hx.int_inv, hx2.int_inv, hx3.int_inv]
  · cases h
/-- a function of Go's library that the model itself has -/
def isExt (P : Program) (f : Nat) (s : String) : Bool := match P.funcs[f]? with
  | some fn => fn.name == s && fn.body.isNone && (Extern.findNext fn).isNone
  | none => false
theorem op_fof {x : Arg} {y : Operand} {o : Oper} {f : Nat} {ts : Array TypeId} (ho : o.op = .call { callee := .value (.func f), args := #[y], argTypes := ts }) (hok : okA x y = true) (hf : isExt P f "math.Float64frombits" = true) (hs : Sim μ M w H) (he : EnvR M μ a env) {v : AV} {H' : Heap}
    (h : evOp (.fof x) env H = some (v, H')) : Post μ M w H v H' ((execOp a.eval o).run P w) := by
  have hx := he.arg hok
  simp only [evOp] at h
  split at h
  · rename_i n e1
    simp only [Option.some.injEq, Prod.mk.injEq] at h
    obtain ⟨rfl, rfl⟩ := h
    rw [e1] at hx
    unfold isExt at hf
    split at hf
    · rename_i fn hfn
      simp only [Bool.and_eq_true, beq_iff_eq] at hf
      obtain ⟨⟨h1, h2⟩, h3⟩ := hf
      have hfind : Extern.find fn = some Extern.MathFloatBits.float64frombits := by
        simp only [Extern.find, h1]
        rfl
      have hrun := run_callFunc_extern hfn (by simp [h1]) h2 (by simpa using h3) hfind #[a.eval y] w
      refine .pure (v := .float .f64 n.toNat) hs (.d (.float _ _)) ?_
      rw [hx.int_inv] at hrun
      have hx2 : (Extern.MathFloatBits.float64frombits #[.int .u64 n]).run P w = .ok (.float .f64 n.toNat) w := rfl
      rw [hx2] at hrun
      have hfe : a.eval (.func f) = .func (.func f) #[] #[] := rfl
      simp [execOp, ho, resolve, Deferred.ofValue, hfe, invoke, hx.int_inv, hrun]
    · cases hf
  · cases h
end
end Go.Vm
/- Maps: made, read, written. -/
namespace Go.Vm
open Go
section
variable {P : Program} {μ : Place} {M : Mem} {w : World} {H : Heap} {a : Act} {env : List AV}
/-- a key's type: whole numbers, or structs of some -/
def keyT (P : Program) (t : TypeId) : Bool := match P.underlying t with
  | some (.int _) => true
  | some (.struct fs) => flatT P t && decide (2 ≤ fs.size)
  | _ => false
theorem keyAV_sound {u : Value} {x : AV} {k : List FV} (h : VR M μ u x) (hk : keyAV x = some k) : KeyR M u k ∧ k ≠ [] := by
  unfold keyAV at hk
  split at hk
  · cases hk; exact ⟨h.d_inv, by simp⟩
  · rename_i cs
    split at hk
    · rename_i h2
      obtain ⟨k1, k2⟩ := toFVs_get hk
      cases h with
      | agg vs _ hl hc =>
        have h3 : ∀ (i : Nat) (u : Value) (y : FV), vs[i]? = some u → k[i]? = some y → FR M u y := fun i u y e1 e2 => (hc i u _ e1 (k2 i y e2)).d_inv
        refine ⟨?_, fun e => by subst e; simp at k1; omega⟩
        unfold KeyR
        split
        · simp at k1; omega
        · exact ⟨vs, rfl, by omega, h3⟩
    · cases hk
  · cases hk
theorem KeyR.two {v : Value} {k : List FV} (h : KeyR M v k) (h2 : 2 ≤ k.length) : ∃ us : Array Value, v = .agg us ∧ us.size = k.length ∧ ∀ (i : Nat) (u : Value) (x : FV), us[i]? = some u → k[i]? = some x → FR M u x := by
  unfold KeyR at h
  split at h
  · simp at h2
  · exact h
theorem KeyR.one {v : Value} {x : FV} (h : KeyR M v [x]) : FR M v x := h
theorem run_checkFields (em : Bool) (n : Nat) (us : Array Value) : ∀ (fs : List Field) (k : Nat) (w : World), flatF P k fs = true → k + fs.length ≤ us.size →
    (forIn (m := Sem) fs () fun f _ => do
      if f.name ≠ "_" then do
        Instr.checkKey em (n + 1) f.type (← part f.type us f.offset)
        pure (ForInStep.yield ())
      else pure (ForInStep.yield ())).run P w = .ok () w
  | [], k, w, _, _ => by simp
  | f :: fs, k, w, hf, hk => by
    simp only [flatF, Bool.and_eq_true] at hf
    obtain ⟨⟨⟨h1, h2⟩, h3⟩, h4⟩ := hf
    simp only [List.length_cons] at hk
    have e1 : us[k]? = some (us[k]'(by omega)) := by simp [show k < us.size by omega]
    cases hd : P.underlying f.type with
    | none => simp [hd] at h3
    | some dd =>
      cases dd <;> simp [hd] at h3
      simp only [beq_iff_eq] at h2
      have hp : (part f.type us f.offset).run P w = .ok (us[k]'(by omega)) w := by simp [part, isAgg, run_und hd, h2, e1]
      have hn : f.name ≠ "_" := by simpa using h1
      have hc : ∀ v, (Instr.checkKey em (n + 1) f.type v).run P w = .ok () w := fun v => by
        unfold Instr.checkKey
        simp [run_und hd]
      simp only [List.forIn_cons, Sem.run_bind, hn, ne_eq, not_false_eq_true, if_true, hp, hc, Result.andThen_ok, Sem.run_pure]
      exact run_checkFields em n us fs (k + 1) w h4 (by omega)
theorem run_checkKey' {t : TypeId} (ht : keyT P t = true) {v : Value} {k : List FV} (hk : KeyR M v k) (hl : ∀ fs, P.underlying t = some (.struct fs) → k.length = fs.size) (em : Bool) (w : World) : (Instr.checkKey em 10000 t v).run P w = .ok () w := by
  unfold keyT at ht
  show (Instr.checkKey em (9999 + 1) t v).run P w = _
  split at ht
  · rename_i q e
    unfold Instr.checkKey
    simp [run_und e]
  · rename_i fs e
    simp only [Bool.and_eq_true, decide_eq_true_eq] at ht
    have hlen := hl fs e
    obtain ⟨us, rfl, h2, h3⟩ := hk.two (by omega)
    have hf : flatF P 0 fs.toList = true := by
      have := ht.1
      unfold flatT at this
      rw [e] at this
      simp only [Bool.and_eq_true] at this
      exact this.1.2
    have := run_checkFields (P := P) em 9998 us fs.toList 0 w hf (by simp; omega)
    rw [show (9999 : Nat) + 1 = 9999 + 1 from rfl, Instr.checkKey]
    simp only [Sem.run_bind, run_und e, Result.andThen_ok]
    rw [← Array.forIn_toList]
    show ((forIn (m := Sem) fs.toList () fun f _ => do
      if f.name ≠ "_" then do
        Instr.checkKey em (9998 + 1) f.type (← part f.type us f.offset)
        pure (ForInStep.yield ())
      else pure (ForInStep.yield ())).run P w).andThen _ = _
    rw [this]
    rfl
  · cases ht
theorem run_keyEq {t : TypeId} (ht : keyT P t = true) {v v' : Value} {k k' : List FV} (hk : KeyR M v k) (hk' : KeyR M v' k') {r : Bool} (h : eqK k k' = some r) (hl : ∀ fs, P.underlying t = some (.struct fs) → k.length = fs.size) (hl1 : ∀ q, P.underlying t = some (.int q) → k.length = 1) (w : World) :
    (Op.equal t v v').run P w = .ok r w ∧ (∀ q, P.underlying t = some (.int q) → Instr.sameNow (.int q) v v' = some r) ∧ (r = true → ∀ n, Instr.sameBits (n + 2) v' v = true) := by
  have bits : ∀ {u u' : Value} {x x' : FV}, FR M u x → FR M u' x' → x.eqv x' = some true → ∀ n, Instr.sameBits n u' u = true := fun {u u' x x'} g1 g2 e n => by
    unfold FV.eqv at e
    split at e
    · split at e
      · rename_i hkk; subst hkk
        cases g1; cases g2
        simp only [Option.some.injEq, beq_iff_eq] at e
        subst e
        unfold Instr.sameBits
        simp
      · cases e
    · cases e
  unfold eqK at h
  split at h
  · rename_i hlen
    unfold keyT at ht
    split at ht
    · rename_i q e
      have h1 := hl1 q e
      match k, k', h1, hlen with
      | [x], [x'], _, _ =>
        have e1 : x.eqv x' = some r := by
          rcases eqvL_cons h with ⟨h0, h2⟩ | ⟨h0, rfl⟩
          · simp [eqvL] at h2; subst h2; exact h0
          · exact h0
        have f1 := hk.one
        have f2 := hk'.one
        have hb := bits f1 f2
        unfold FV.eqv at e1 hb
        split at e1
        · split at e1
          · rename_i hkk; subst hkk
            cases f1; cases f2
            simp only [Option.some.injEq] at e1
            refine ⟨?_, fun q' e' => by simp [Instr.sameNow, e1], fun hr n => hb (by simp [e1, hr]) _⟩
            show (Op.equalIn (9999 + 1) t _ _).run P w = _
            rw [run_equalIn_int' 9999 t _ _ e, e1]
          · cases e1
        · cases e1
    · rename_i fs e
      simp only [Bool.and_eq_true, decide_eq_true_eq] at ht
      have l1 := hl fs e
      obtain ⟨us, rfl, h2, h3⟩ := hk.two (by omega)
      obtain ⟨vs, rfl, g2, g3⟩ := hk'.two (by omega)
      refine ⟨run_equal_flat (n := fs.size) ht.1 (by rw [e]) us vs k k' h2 g2 h3 g3 l1 h w, (fun q e' => by rw [e] at e'; cases e'), fun hr n => ?_⟩
      subst hr
      unfold Instr.sameBits
      simp only [Bool.and_eq_true, beq_iff_eq, List.all_eq_true]
      refine ⟨by omega, fun z hz => ?_⟩
      obtain ⟨i, hi⟩ := List.getElem?_of_mem hz
      rw [List.getElem?_zip_eq_some] at hi
      obtain ⟨i1, i2⟩ := hi
      have both : ∀ (xs ys : List FV), eqvL xs ys = some true → ∀ (i : Nat) (x y : FV), xs[i]? = some x → ys[i]? = some y → x.eqv y = some true := by
        intro xs
        induction xs with
        | nil => intro ys _ i x y e1; simp at e1
        | cons p ps ih =>
          intro ys hh i x y e1 e2
          cases ys with
          | nil => simp at e2
          | cons p' ps' =>
            rcases eqvL_cons hh with ⟨a1, a2⟩ | ⟨_, a2⟩
            · cases i with
              | zero => simp at e1 e2; subst e1; subst e2; exact a1
              | succ i => exact ih ps' a2 i x y (by simpa using e1) (by simpa using e2)
            · cases a2
      have iv : i < vs.size := (Array.getElem?_eq_some_iff.1 (by simpa using i1)).1
      have e1 : k[i]? = some (k[i]'(by omega)) := by simp [show i < k.length by omega]
      have e2 : k'[i]? = some (k'[i]'(by omega)) := by simp [show i < k'.length by omega]
      exact bits (h3 i _ _ (by simpa using i2) e1) (g3 i _ _ (by simpa using i1) e2) (both k k' h i _ _ e1 e2) _
    · cases ht
  · cases h
/-- looked for: where it is, or that it is not there -/
def FindAt (es : List MapEntry) (kv : Value) (r : Option FV) (M : Mem) (res : Option (Nat × Value)) : Prop := match r with
  | none => res = none
  | some x => ∃ i e, res = some (i, e.val) ∧ es[i]? = some e ∧ FR M e.val x ∧ Instr.sameBits 10000 e.key kv = true
theorem run_findAsking {t : TypeId} (ht : keyT P t = true) {kv : Value} {k : List FV} (hk : KeyR M kv k) (hl : ∀ fs, P.underlying t = some (.struct fs) → k.length = fs.size) (hl1 : ∀ q, P.underlying t = some (.int q) → k.length = 1) (w : World) :
    ∀ (es : List MapEntry) (ks : List (List FV × FV)) (i : Nat) (r : Option FV), es.length = ks.length → (∀ (j : Nat) (e : MapEntry) (kx : List FV × FV), es[j]? = some e → ks[j]? = some kx → KeyR M e.key kx.1 ∧ FR M e.val kx.2) → mapFind k ks = some r →
      ∃ res, (Instr.findAsking t kv es i).run P w = .ok (res.map fun (j, v) => (i + j, v)) w ∧ (∀ q, P.underlying t = some (.int q) → Instr.findNow (.int q) kv es i = some (res.map fun (j, v) => (i + j, v))) ∧ FindAt es kv r M res ∧ (∀ j v, res = some (j, v) → ∀ n y, mapSet k y ks = some n → n = ks.set j (k, y)) ∧ (res = none → ∀ n y, mapSet k y ks = some n → n = ks ++ [(k, y)])
  | [], ks, i, r, hlen, hR, h => by
    cases ks with
    | nil =>
      simp only [mapFind, Option.some.injEq] at h
      subst h
      exact ⟨none, by simp [Instr.findAsking], fun q e => by simp [Instr.findNow], rfl, (fun j v e => by cases e), fun _ n y e => by simp only [mapSet, Option.some.injEq] at e; subst e; rfl⟩
    | cons => simp at hlen
  | e :: es, ks, i, r, hlen, hR, h => by
    cases ks with
    | nil => simp at hlen
    | cons kx ks =>
      obtain ⟨k', x⟩ := kx
      obtain ⟨q1, q2⟩ := hR 0 e (k', x) rfl rfl
      simp only [mapFind] at h
      split at h
      · rename_i he
        cases h
        obtain ⟨p1, p2, p3⟩ := run_keyEq ht hk q1 he hl hl1 w
        refine ⟨some (0, e.val), by simp [Instr.findAsking, p1], fun q eq => by simp [Instr.findNow, p2 q eq], ⟨0, e, rfl, rfl, q2, p3 rfl 9998⟩, fun j v ej n y hs => ?_, fun e => by cases e⟩
        cases ej
        simp only [mapSet, he, Option.some.injEq] at hs
        subst hs; rfl
      · rename_i he
        obtain ⟨p1, p2, p3⟩ := run_keyEq ht hk q1 he hl hl1 w
        obtain ⟨res, r1, r2, r3, r4, r5⟩ := run_findAsking ht hk hl hl1 w es ks (i + 1) r (by simpa using hlen) (fun j e' kx' e1 e2 => hR (j + 1) e' kx' (by simpa using e1) (by simpa using e2)) h
        refine ⟨res.map fun (j, v) => (j + 1, v), ?_, fun q eq => ?_, ?_, fun j v ej n y hs => ?_, fun ej n y hs => ?_⟩
        · simp only [Instr.findAsking, Sem.run_bind, p1, Result.andThen_ok, Bool.false_eq_true, if_false, r1]
          cases res with
          | none => rfl
          | some p => simp; omega
        · simp only [Instr.findNow, p2 q eq, r2 q eq]
          cases res with
          | none => rfl
          | some p => simp; omega
        · cases r with
          | none => simp only [FindAt] at r3 ⊢; subst r3; rfl
          | some y =>
            obtain ⟨j, e', a1, a2, a3⟩ := r3
            subst a1
            exact ⟨j + 1, e', rfl, by simpa using a2, a3⟩
        · cases res with
          | none => cases ej
          | some p =>
            obtain ⟨j', v'⟩ := p
            simp only [Option.map_some, Option.some.injEq, Prod.mk.injEq] at ej
            obtain ⟨rfl, rfl⟩ := ej
            simp only [mapSet, he, Option.map_eq_some_iff] at hs
            obtain ⟨n', hn', rfl⟩ := hs
            rw [r4 j' v' rfl n' y hn']
            rfl
        · cases res with
          | some p => cases ej
          | none =>
            simp only [mapSet, he, Option.map_eq_some_iff] at hs
            obtain ⟨n', hn', rfl⟩ := hs
            rw [r5 rfl n' y hn']
            rfl
      · cases h
end
end Go.Vm
/- Maps: the operations. -/
namespace Go.Vm
open Go
section
variable {P : Program} {μ : Place} {M : Mem} {w : World} {H : Heap} {a : Act} {env : List AV}
/-- how many cells a key has -/
def keyN (P : Program) (t : TypeId) (n : Nat) : Bool := keyT P t && match P.underlying t with
  | some (.int _) => n == 1
  | some (.struct fs) => fs.size == n
  | _ => false
theorem keyN_sound {t : TypeId} {n : Nat} (h : keyN P t n = true) : keyT P t = true ∧ (∀ fs, P.underlying t = some (.struct fs) → n = fs.size) ∧ ∀ q, P.underlying t = some (.int q) → n = 1 := by
  unfold keyN at h
  simp only [Bool.and_eq_true] at h
  refine ⟨h.1, fun fs e => ?_, fun q e => ?_⟩
  · have := h.2; rw [e] at this; simp at this; exact this.symm
  · have := h.2; rw [e] at this; simpa using this
theorem run_findKey' {t : TypeId} (ht : keyT P t = true) {kv : Value} {k : List FV} (hk : KeyR M kv k) (hl : ∀ fs, P.underlying t = some (.struct fs) → k.length = fs.size) (hl1 : ∀ q, P.underlying t = some (.int q) → k.length = 1) (w : World)
    (es : List MapEntry) (ks : List (List FV × FV)) (r : Option FV) (hlen : es.length = ks.length) (hR : ∀ (j : Nat) (e : MapEntry) (kx : List FV × FV), es[j]? = some e → ks[j]? = some kx → KeyR M e.key kx.1 ∧ FR M e.val kx.2) (h : mapFind k ks = some r) :
    ∃ res, (Instr.findKey t kv es).run P w = .ok res w ∧ FindAt es kv r M res ∧ (∀ j v, res = some (j, v) → ∀ n y, mapSet k y ks = some n → n = ks.set j (k, y)) ∧ (res = none → ∀ n y, mapSet k y ks = some n → n = ks ++ [(k, y)]) := by
  obtain ⟨res, r1, r2, r3, r4, r5⟩ := run_findAsking ht hk hl hl1 w es ks 0 r hlen hR h
  refine ⟨res, ?_, r3, r4, r5⟩
  have e0 : (res.map fun (j, v) => (0 + j, v)) = res := by cases res <;> simp
  rw [e0] at r1 r2
  unfold keyT at ht
  split at ht
  · rename_i q e
    exact MapKept.run_findKey e (r2 q e)
  · rename_i fs e
    rw [run_findKey_eq w (by rw [e])]
    exact r1
  · cases ht
theorem op_mkmap {ty : Nat} {o : Oper} (ho : o.op = .makeMap ty none) (hs : Sim μ M w H) {v : AV} {H' : Heap}
    (h : evOp (.mkmap ty) env H = some (v, H')) : Post μ M w H v H' ((execOp a.eval o).run P w) := by
  simp only [evOp, Option.some.injEq, Prod.mk.injEq] at h
  obtain ⟨rfl, rfl⟩ := h
  obtain ⟨k1, k2⟩ := hs.alloc (.map #[] 0) ⟨some w.heap.size, 0, 0, 0, 0⟩ (.map ty []) rfl ⟨_, w.heap.size, #[], 0, setLoc_same _ _ _, rfl, rfl, alloc_new _ _, rfl, fun i x kx e => by simp at e, hs.freshM⟩
  have hnew : (newObj (.map #[] 0)).run P w = .ok w.heap.size (w.alloc (.map #[] 0)) := rfl
  exact ⟨.map (some w.heap.size), _, _, M, .inl (by simp [execOp, ho, Instr.makeMap, hnew]), .map _ _ _ (setLoc_same _ _ _) ⟨_, rfl⟩ fun _ => ⟨_, rfl, rfl⟩, k1, k2⟩
theorem op_look {n : Nat} {zero : FV} {m k : Arg} {y yk : Operand} {o : Oper} {t kt et : TypeId} {i : TypeInfo} {z : Value} (ho : o.op = .lookup t y yk false) (hm : okA m y = true) (hk : okA k yk = true) (ht : P.underlying t = some (.map kt et)) (hn : keyN P kt n = true)
    (hi : P.info? et = some i) (hz : i.zero = some z) (hzero : okC zero z = true) (hs : Sim μ M w H) (he : EnvR M μ a env) {v : AV} {H' : Heap}
    (h : evOp (.look n zero m k) env H = some (v, H')) : Post μ M w H v H' ((execOp a.eval o).run P w) := by
  have hxm := he.arg hm
  have hxk := he.arg hk
  simp only [evOp] at h
  split at h
  · rename_i b kk e1 e2
    split at h
    · rename_i hlen
      split at h
      · rename_i ty es hb
        split at h
        · rename_i r hr
          simp only [Option.some.injEq, Prod.mk.injEq] at h
          obtain ⟨rfl, rfl⟩ := h
          rw [e1] at hxm
          obtain ⟨l, B, vs, clock, h1, h2, h3, h4, h5, h6, h7⟩ := hs.blk b _ hb
          have hmv : a.eval y = .map (some B) := by
            generalize a.eval y = q at hxm
            cases hxm with
            | map v b l' hl g1 g =>
              rw [h1] at hl; cases hl
              obtain ⟨B', b1, b2⟩ := g h2
              rw [h3] at b1; cases b1; exact b2
          obtain ⟨q1, q2⟩ := keyAV_sound hxk e2
          obtain ⟨n1, n2, n3⟩ := keyN_sound hn
          have hl : ∀ fs, P.underlying kt = some (.struct fs) → kk.length = fs.size := fun fs e => by rw [hlen]; exact n2 fs e
          have hl1 : ∀ q, P.underlying kt = some (.int q) → kk.length = 1 := fun q e => by rw [hlen]; exact n3 q e
          obtain ⟨res, r1, r2, _, _⟩ := run_findKey' n1 q1 hl hl1 w vs.toList es r (by simpa using h5) (fun j e kx f1 f2 => h6 j e kx (by simpa using f1) f2) hr
          have hc := run_checkKey' n1 q1 hl vs.isEmpty w
          have hget : (getObj B).run P w = .ok (.map vs clock) w := by simp [getObj, Sem.run, h4]
          have hzr := run_zero hi hz w
          cases r with
          | none =>
            have r2 : res = none := r2
            subst r2
            refine .pure (v := z) hs (.d (okC_sound hzero)) ?_
            simp [execOp, ho, Instr.lookup, run_und ht, hmv, hget, hc, r1, hzr]
          | some x =>
            obtain ⟨j, e, rfl, a2, a3, a4⟩ := r2
            refine .pure (v := e.val) hs (.d a3) ?_
            simp [execOp, ho, Instr.lookup, run_und ht, hmv, hget, hc, r1]
        · cases h
      · cases h
    · cases h
  · cases h
theorem Sim.setMap (hs : Sim μ M w H) {b B : Nat} {l : Loc} {ty : Nat} {es es' : List (List FV × FV)} {vs vs' : Array MapEntry} {c c' : Nat} (hb : H[b]? = some (.map ty es)) (hl : μ b = some l) (hg : l.g = 0) (had : l.ad = some B) (hB : w.heap[B]? = some (.map vs c)) (hM : ∀ o, M B o = none)
    (hlen : vs'.size = es'.length) (hR : ∀ (i : Nat) (x : MapEntry) (kx : List FV × FV), vs'[i]? = some x → es'[i]? = some kx → KeyR M x.key kx.1 ∧ FR M x.val kx.2) :
    Sim μ M { w with heap := w.heap.setIfInBounds B (.map vs' c') } (H.set b (.map ty es')) ∧ Nx μ M w H μ M { w with heap := w.heap.setIfInBounds B (.map vs' c') } (H.set b (.map ty es')) := by
  have hlt : b < H.length := (List.getElem?_eq_some_iff.1 hb).1
  have hBlt := (Array.getElem?_eq_some_iff.1 hB).1
  have other : ∀ C, C ≠ B → (w.heap.setIfInBounds B (.map vs' c'))[C]? = w.heap[C]? := fun C h => by simp [Ne.symm h]
  have here : (w.heap.setIfInBounds B (.map vs' c'))[B]? = some (.map vs' c') := by simp [hBlt]
  refine ⟨hs.turn b (.refl _ _) (fun x hx => hs.dom x (by simpa using hx)) (fun d o v e => ?_) (fun x hx => getElem?_set_ne' _ _ _ _ hx) (fun _ _ => rfl) (fun q hq => ?_) (fun l0 B e1 e2 => .inl ⟨l0, e1, e2⟩) (fun x l0 C hx e1 e2 => ⟨other C fun e => ?_, fun _ h => h⟩),
    hs.turnNx b (.refl _ _) (fun _ _ => rfl) (fun l0 B e1 e2 => .inl ⟨l0, e1, e2⟩) rfl rfl rfl (by simp) (fun C hC h => other C fun e => ?_) (fun _ _ _ h => .inl h)⟩
  · by_cases hd : d = B
    · subst hd; rw [hM] at e; cases e
    · have := hs.mem d o v e
      unfold World.cell? at this ⊢
      simp only [other d hd]; exact this
  · rw [List.getElem?_set_self hlt] at hq
    cases hq
    exact ⟨l, B, vs', c', hl, hg, had, here, hlen, hR, hM⟩
  · subst e
    exact hs.apart x b l0 l C (hs.lt e1 e2).1 hlt hx e1 hl e2 had
  · subst e; exact h l hl had
theorem op_upd {n : Nat} {m k x : Arg} {y yk yx : Operand} {o : Oper} {t kt et : TypeId} (ho : o.op = .mapUpdate t y yk yx) (hm : okA m y = true) (hk : okA k yk = true) (hx : okA x yx = true) (ht : P.underlying t = some (.map kt et)) (hn : keyN P kt n = true)
    (hs : Sim μ M w H) (he : EnvR M μ a env) {v : AV} {H' : Heap}
    (h : evOp (.upd n m k x) env H = some (v, H')) : Post μ M w H v H' ((execOp a.eval o).run P w) := by
  have hxm := he.arg hm
  have hxk := he.arg hk
  have hxx := he.arg hx
  simp only [evOp] at h
  split at h
  · rename_i b kk xx e1 e2 e3
    split at h
    · rename_i hlen
      split at h
      · rename_i ty es hb
        split at h
        · rename_i es' hes
          simp only [Option.some.injEq, Prod.mk.injEq] at h
          obtain ⟨rfl, rfl⟩ := h
          rw [e1] at hxm
          have hxv : FR M (a.eval yx) xx := by
            have : x.ev env = .d xx := by
              generalize x.ev env = q at e3
              cases q <;> simp [toFV] at e3
              rw [e3]
            rw [this] at hxx
            exact hxx.d_inv
          obtain ⟨l, B, vs, clock, h1, h2, h3, h4, h5, h6, h7⟩ := hs.blk b _ hb
          have hmv : a.eval y = .map (some B) := by
            generalize a.eval y = q at hxm
            cases hxm with
            | map v b l' hl g1 g =>
              rw [h1] at hl; cases hl
              obtain ⟨B', b1, b2⟩ := g h2
              rw [h3] at b1; cases b1; exact b2
          obtain ⟨q1, q2⟩ := keyAV_sound hxk e2
          obtain ⟨n1, n2, n3⟩ := keyN_sound hn
          have hl : ∀ fs, P.underlying kt = some (.struct fs) → kk.length = fs.size := fun fs e => by rw [hlen]; exact n2 fs e
          have hl1 : ∀ q, P.underlying kt = some (.int q) → kk.length = 1 := fun q e => by rw [hlen]; exact n3 q e
          have hfind : ∃ r, mapFind kk es = some r := by
            have : ∀ (es es' : List (List FV × FV)), mapSet kk xx es = some es' → ∃ r, mapFind kk es = some r := by
              intro es
              induction es with
              | nil => intro _ _; exact ⟨_, rfl⟩
              | cons p es ih =>
                intro es' hh
                obtain ⟨k', x'⟩ := p
                simp only [mapSet] at hh
                simp only [mapFind]
                split at hh
                · exact ⟨_, rfl⟩
                · simp only [Option.map_eq_some_iff] at hh
                  obtain ⟨q, hq, _⟩ := hh
                  exact ih q hq
                · cases hh
            exact this es es' hes
          obtain ⟨r, hr⟩ := hfind
          have hR : ∀ (j : Nat) (e : MapEntry) (kx : List FV × FV), vs.toList[j]? = some e → es[j]? = some kx → KeyR M e.key kx.1 ∧ FR M e.val kx.2 := fun j e kx f1 f2 => h6 j e kx (by simpa using f1) f2
          obtain ⟨res, r1, r2, r3, r4⟩ := run_findKey' n1 q1 hl hl1 w vs.toList es r (by simpa using h5) hR hr
          have hc := run_checkKey' n1 q1 hl false w
          have hget : (getObj B).run P w = .ok (.map vs clock) w := by simp [getObj, Sem.run, h4]
          have hset : ∀ (q : Obj), (setObj B q).run P w = .ok () { w with heap := w.heap.setIfInBounds B q } := fun q => by simp [setObj, Sem.run, h4]
          cases hres : res with
          | none =>
            subst hres
            have hn' := r4 rfl es' xx hes
            subst hn'
            have hsz : (vs.push { key := a.eval yk, val := a.eval yx, born := clock }).size = (es ++ [(kk, xx)]).length := by simp [h5]
            obtain ⟨s1, s2⟩ := hs.setMap (c' := clock + 1) hb h1 h2 h3 h4 h7 hsz (fun i e kx f1 f2 => by
              rw [Array.getElem?_push] at f1
              split at f1
              · cases f1
                rename_i hi
                subst hi
                rw [h5, List.getElem?_append_right (Nat.le_refl _), Nat.sub_self] at f2
                simp at f2
                subst f2
                exact ⟨q1, hxv⟩
              · have hi := (Array.getElem?_eq_some_iff.1 f1).1
                rw [List.getElem?_append_left (by omega)] at f2
                exact h6 i e kx f1 f2)
            refine ⟨undef, _, μ, M, .inr ⟨?_, rfl⟩, .undef _, s1, s2⟩
            simp [execOp, ho, Instr.mapUpdate, run_und ht, hmv, hget, hc, r1, hset]
          | some p =>
            obtain ⟨j, pv⟩ := p
            subst hres
            have hn' := r3 j pv rfl es' xx hes
            subst hn'
            have hFA : ∃ e, vs.toList[j]? = some e ∧ Instr.sameBits 10000 e.key (a.eval yk) = true := by
              cases r with
              | none => cases r2
              | some z =>
                obtain ⟨j', e, b1, b2, b3, b4⟩ := r2
                cases b1
                exact ⟨e, b2, b4⟩
            obtain ⟨e, b2, b4⟩ := hFA
            have b2' : vs[j]? = some e := by simpa using b2
            have hjlt := (Array.getElem?_eq_some_iff.1 b2').1
            have hkey : (Instr.keyThatStays (((vs[j]?).map (·.key)).getD (a.eval yk)) (a.eval yk)).run P w = .ok (a.eval yk) w := by
              rw [b2']
              simp [Instr.keyThatStays, b4]
            have hsz : (vs.modify j fun e => { e with key := a.eval yk, val := a.eval yx }).size = (es.set j (kk, xx)).length := by simp [h5]
            obtain ⟨s1, s2⟩ := hs.setMap (c' := clock) hb h1 h2 h3 h4 h7 hsz (fun i e' kx f1 f2 => by
              rw [Array.getElem?_modify] at f1
              by_cases hij : j = i
              · subst hij
                rw [if_pos rfl, b2'] at f1
                simp only [Option.map_some, Option.some.injEq] at f1
                subst f1
                rw [List.getElem?_set_self (by omega)] at f2
                cases f2
                exact ⟨q1, hxv⟩
              · rw [if_neg hij] at f1
                rw [List.getElem?_set_ne hij] at f2
                exact h6 i e' kx f1 f2)
            refine ⟨undef, _, μ, M, .inr ⟨?_, rfl⟩, .undef _, s1, s2⟩
            simp [execOp, ho, Instr.mapUpdate, run_und ht, hmv, hget, hc, r1, hkey, hset]
        · cases h
      · cases h
    · cases h
  · cases h
end
end Go.Vm
/- Slices of slices; copy; clear; rows cut back; rows of zeros. -/
namespace Go.Vm
open Go
section
variable {P : Program} {μ : Place} {M : Mem} {w : World} {H : Heap} {a : Act} {env : List AV}
theorem Sim.drew (hs : Sim μ M w H) : Sim μ M w.drew H ∧ Nx μ M w H μ M w.drew H := by
  refine ⟨⟨fun b o v h => hs.mem b o v h, hs.dom, fun b k hk => ?_, hs.apart⟩, ⟨.refl _ _, ⟨rfl, rfl, rfl, Nat.le_refl _, fun _ _ _ => rfl⟩, fun _ h => .inl h, fun _ _ _ h => .inl h⟩⟩
  exact (hs.blk b k hk).keep (.refl _ _) rfl fun l B _ _ => ⟨rfl, fun o h => h⟩
theorem setRow_blk {w : World} {B : Nat} {vs vs' : Array Value} {ty : TypeId} (h : w.heap[B]? = some (.cells vs ty (0, 0))) : w.setRow B vs' = setBlk w B (.cells vs' ty (0, 0)) := by
  have hlt := (Array.getElem?_eq_some_iff.1 h).1
  unfold World.setRow setBlk
  congr 1
  apply Array.ext_getElem?
  intro i
  rw [Array.getElem?_modify, Array.getElem?_setIfInBounds]
  by_cases e : B = i
  · subst e
    have h2 : w.heap[B] = .cells vs ty (0, 0) := (Array.getElem?_eq_some_iff.1 h).2
    simp [hlt, h2]
  · simp [e]
theorem op_cap0 {x : Arg} {y : Operand} {o : Oper} {t e : Nat} (ho : o.op = .call { callee := .builtin .cap, args := #[y], argTypes := #[t] }) (hok : okA x y = true) (ht : P.underlying t = some (.slice e)) (hs : Sim μ M w H) (he : EnvR M μ a env) {v : AV} {H' : Heap}
    (h : evOp (.cap0 x) env H = some (v, H')) : Post μ M w H v H' ((execOp a.eval o).run P w) := by
  have hx := he.arg hok
  simp only [evOp] at h
  split at h
  · rename_i e1
    simp only [Option.some.injEq, Prod.mk.injEq] at h
    obtain ⟨rfl, rfl⟩ := h
    rw [e1] at hx
    refine .pure (v := .int .i64 0) hs (.d (.int _ _)) ?_
    simp [execOp, ho, resolve, invoke, builtin, Builtin.cap_, hx.nil_inv, run_und ht, goInt]
  · cases h
theorem op_winS {x : Arg} {y : Operand} {lo hi : Option Arg} {lo' hi' : Option Operand} {o : Oper} {t e sz : Nat} (ho : o.op = .slice t y lo' hi' none) (hok : okA x y = true) (h1 : okO lo lo' = true) (h2 : okO hi hi' = true) (ht : P.underlying t = some (.slice e)) (hsz : (P.info? e).map (·.size) = some sz) (hs : Sim μ M w H) (he : EnvR M μ a env) {v : AV} {H' : Heap}
    (h : evOp (.winS sz x lo hi) env H = some (v, H')) : Post μ M w H v H' ((execOp a.eval o).run P w) := by
  have hx := he.arg hok
  simp only [evOp] at h
  split at h
  · rename_i b g e0
    rw [e0] at hx
    split at h
    · rename_i ty sz' el g' p hb
      split at h
      · rename_i l r e1 e2
        split at h
        · rename_i hc
          obtain ⟨rfl, rfl, hlr, hrl⟩ := hc
          simp only [Option.some.injEq, Prod.mk.injEq] at h
          obtain ⟨rfl, rfl⟩ := h
          obtain ⟨lc, k1, k2, k3⟩ := hx.row_cur hs (by simp [genOf, hb])
          obtain ⟨l', q1, q2, q3, q4, q5, q6, q7, q8⟩ := hs.blk b _ hb
          rw [k1] at q1
          cases q1
          have hcap : el.length ≤ lc.cap := by
            rcases q8 with ⟨r1, rfl, r3⟩ | ⟨B, vs, r1, r2, r3, r4, _⟩
            · simp
            · omega
          have hb' := run_bounds (P := P) he h1 h2 true e1 e2 hlr hrl hcap w
          have hrun : (execOp a.eval o).run P w = .ok (.value (.slice (if lc.cap = l then lc.ad.map (fun B => (⟨B, 0, none⟩ : Addr)) else (lc.ad.map (fun B => (⟨B, 0, none⟩ : Addr))).map fun z => z.add (l * sz)) (r - l) (lc.cap - l))) w := by
            simp [execOp, ho, Instr.sliceAt, run_und ht, Instr.slice, k3, Loc.val, q3, hb', run_size hsz]
          refine .pure hs (.win _ b g l (r - l) lc k1 (by omega) ⟨_, _, _, rfl⟩ fun _ => ⟨by omega, ?_⟩) hrun
          congr 1
          by_cases hl : lc.cap = l
          · simp [hl]
          · simp only [if_neg hl, Option.map_map, Function.comp_def, addr_add, q4, Nat.zero_add]
        · cases h
      · cases h
    · cases h
  · cases h
theorem op_pop {x hi : Arg} {y hi' : Operand} {o : Oper} {t e sz : Nat} (ho : o.op = .slice t y none (some hi') none) (hok : okA x y = true) (h2 : okA hi hi' = true) (ht : P.underlying t = some (.slice e)) (hsz : (P.info? e).map (·.size) = some sz) (hs : Sim μ M w H) (he : EnvR M μ a env) {v : AV} {H' : Heap}
    (h : evOp (.pop x hi) env H = some (v, H')) : Post μ M w H v H' ((execOp a.eval o).run P w) := by
  have hx := he.arg hok
  simp only [evOp] at h
  split at h
  · rename_i b g e0
    rw [e0] at hx
    split at h
    · rename_i ty sz' el g' p h' hb e2
      split at h
      · rename_i hc
        obtain ⟨rfl, hc1, hc2, hc3⟩ := hc
        simp only [Option.some.injEq, Prod.mk.injEq] at h
        obtain ⟨rfl, rfl⟩ := h
        obtain ⟨lc, k1, k2, k3⟩ := hx.row_cur hs (by simp [genOf, hb])
        obtain ⟨l', q1, q2, q3, q4, q5, q6, q7, q8⟩ := hs.blk b _ hb
        rw [k1] at q1
        cases q1
        obtain ⟨n, rfl⟩ := Int.eq_ofNat_of_zero_le hc1
        have hn : n ≤ el.length := by omega
        have hcap : el.length ≤ lc.cap := by
          rcases q8 with ⟨r1, rfl, r3⟩ | ⟨B, vs, r1, r2, r3, r4, _⟩
          · simp
          · omega
        have hb' := run_bounds (P := P) he (lo := none) (hi := some hi) (lo' := none) (hi' := some hi') rfl h2 true (l := 0) (h := n) (len := el.length) rfl (by simp [bounds, e2]) (Nat.zero_le _) hn hcap w
        have hval : (if lc.cap = 0 then lc.ad.map (fun B => (⟨B, 0, none⟩ : Addr)) else (lc.ad.map (fun B => (⟨B, 0, none⟩ : Addr))).map fun z => z.add (0 * sz)) = lc.ad.map (⟨·, 0, none⟩ : Nat → Addr) := by
          split
          · rfl
          · simp [Option.map_map, Function.comp_def, addr_add]
        have hrun : (execOp a.eval o).run P w = .ok (.value (.slice (lc.ad.map (⟨·, 0, none⟩)) n lc.cap)) w := by
          have : (execOp a.eval o).run P w = .ok (.value (.slice (if lc.cap = 0 then lc.ad.map (fun B => (⟨B, 0, none⟩ : Addr)) else (lc.ad.map (fun B => (⟨B, 0, none⟩ : Addr))).map fun z => z.add (0 * sz)) (n - 0) (lc.cap - 0))) w := by
            simp only [Option.map_none, Option.map_some] at hb'
            simp [execOp, ho, Instr.sliceAt, run_und ht, Instr.slice, k3, Loc.val, q3, hb', run_size hsz]
          rw [this, hval]; rfl
        have hblt : b < H.length := (List.getElem?_eq_some_iff.1 hb).1
        have hext : Ext M μ M (setLoc μ b { lc with n := n, g := g + 1 }) := ⟨fun _ _ _ h => h, fun x l hl => by
          by_cases e : x = b
          · subst e
            rw [k1] at hl; cases hl
            exact ⟨_, setLoc_same _ _ _, .inr (by show lc.g < g + 1; omega)⟩
          · exact ⟨l, by rw [setLoc_other _ _ e]; exact hl, .inl rfl⟩⟩
        simp only [Int.toNat_natCast]
        refine ⟨_, w, setLoc μ b { lc with n := n, g := g + 1 }, M, .inl hrun, .row _ _ _ _ (setLoc_same _ _ _) (Nat.le_refl _) ⟨_, _, _, rfl⟩ fun _ => rfl, ?_, ?_⟩
        · refine hs.turn b hext (fun x hx => by rw [setLoc_other _ _ (by simp at hx; omega)]; exact hs.dom x (by simpa using hx)) hs.mem (fun x hx => getElem?_set_ne' _ _ _ _ hx) (fun x hx => setLoc_other _ _ hx) (fun q hq => ?_) (fun l0 B e1 e2 => by rw [setLoc_same] at e1; cases e1; exact .inl ⟨lc, k1, e2⟩) (fun x l0 B hx e1 e2 => ⟨rfl, fun _ h => h⟩)
          rw [List.getElem?_set_self hblt] at hq
          cases hq
          refine ⟨_, setLoc_same _ _ _, by simp [k2], by simp; omega, q4, q5, by simp; omega, q7, ?_⟩
          rcases q8 with ⟨r1, rfl, r3⟩ | ⟨B, vs, r1, r2, r3, r4, r5, r6, r7⟩
          · exact .inl ⟨r1, by simp, r3⟩
          · refine .inr ⟨B, vs, r1, r2, by simp; omega, r4, fun i cs e => ?_, fun i cs j x v e1 e2 e3 => ?_, r7⟩
            · rw [List.getElem?_take] at e
              split at e
              · exact r5 i cs e
              · cases e
            · rw [List.getElem?_take] at e1
              split at e1
              · exact (r6 i cs j x v e1 e2 e3).ext hext.mem
              · cases e1
        · exact hs.turnNx b hext (fun x hx => setLoc_other _ _ hx) (fun l0 B e1 e2 => by rw [setLoc_same] at e1; cases e1; exact .inl ⟨lc, k1, e2⟩) rfl rfl rfl (Nat.le_refl _) (fun _ _ _ => rfl) (fun _ _ _ h => .inl h)
      · cases h
    · cases h
  · rename_i e0
    rw [e0] at hx
    split at h
    · rename_i e2
      simp only [Option.some.injEq, Prod.mk.injEq] at h
      obtain ⟨rfl, rfl⟩ := h
      have hb' := run_bounds (P := P) he (lo := none) (hi := some hi) (lo' := none) (hi' := some hi') rfl h2 true (l := 0) (h := 0) (len := 0) (cap := 0) rfl (by simp [bounds, e2]) (Nat.zero_le _) (Nat.zero_le _) (Nat.zero_le _) w
      refine .pure (v := .slice none 0 0) hs (.d .nil) ?_
      simp only [Option.map_none, Option.map_some] at hb'
      simp [execOp, ho, Instr.sliceAt, run_und ht, Instr.slice, hx.nil_inv, hb', run_size hsz]
    · cases h
  · cases h
/-- elements of one cell laid into a row -/
theorem Sim.splice (hs : Sim μ M w H) {b B ty g p lo : Nat} {l : Loc} {el ys : List (List FV)} {vs : Array Value} {cs : List Value} (hb : H[b]? = some (.row ty 1 el g p)) (hl : μ b = some l) (had : l.ad = some B) (hB : w.heap[B]? = some (.cells vs ty (0, 0)))
    (hp : p ≤ lo) (hfit : lo + ys.length ≤ el.length) (hlen : cs.length = ys.length) (hys : ∀ (i : Nat) (c : List FV), ys[i]? = some c → c.length = 1) (hcs : ∀ (i : Nat) (c : List FV) (x : FV) (u : Value), ys[i]? = some c → c[0]? = some x → cs[i]? = some u → FR M u x) :
    Sim μ M (setBlk w B (.cells (vs.toList.take lo ++ cs ++ vs.toList.drop (lo + cs.length)).toArray ty (0, 0))) (H.set b (.row ty 1 (putAt el lo ys) g p)) ∧
      Nx μ M w H μ M (setBlk w B (.cells (vs.toList.take lo ++ cs ++ vs.toList.drop (lo + cs.length)).toArray ty (0, 0))) (H.set b (.row ty 1 (putAt el lo ys) g p)) := by
  obtain ⟨l', q1, q2, q3, q4, q5, q6, q7, q8⟩ := hs.blk b _ hb
  rw [hl] at q1; cases q1
  rcases q8 with ⟨r1, _, _⟩ | ⟨B', vs', r1, r2, r3, r4, r5, r6, r7⟩
  · rw [r1] at had; cases had
  · rw [had] at r1; cases r1
    rw [hB] at r2; cases r2
    have hBlt := (Array.getElem?_eq_some_iff.1 hB).1
    have hsz : el.length ≤ vs.size := by rw [r4]; omega
    have hput := putAt_get el ys lo hfit
    have hput2 : ∀ i, (vs.toList.take lo ++ cs ++ vs.toList.drop (lo + cs.length))[i]? = if lo ≤ i ∧ i < lo + cs.length then cs[i - lo]? else vs[i]? := fun i => by
      have := putAt_get vs.toList cs lo (by rw [hlen]; simp; omega) i
      unfold putAt at this
      rw [this]
      split <;> simp
    have hplen := putAt_length el ys lo hfit
    refine hs.setB hb hl had hB (fun o v e => ?_) ⟨l, hl, q2, by rw [hplen]; exact q3, q4, q5, by rw [hplen]; exact q6, q7, .inr ⟨B, _, had, setBlk_same w _ hBlt, r3, ?_, fun i c e => ?_, fun i c j x v e1 e2 e3 => ?_, r7⟩⟩
    · have hlt : o < p := by
        rcases Nat.lt_or_ge o p with h | h
        · exact h
        · have := r7 o (by omega)
          rw [this] at e; cases e
      rw [List.getElem?_toArray, hput2, if_neg (by omega)]
      have := hs.mem B o v e
      rw [block_cell hB] at this
      exact this
    · simp; omega
    · rw [hput] at e
      split at e
      · exact hys _ c e
      · exact r5 i c e
    · rw [hput] at e1
      rw [List.getElem?_toArray, hput2] at e3
      rw [hlen] at e3
      have hj : j = 0 := by
        have h1 : c.length = 1 := by
          split at e1
          · exact hys _ c e1
          · exact r5 i c e1
        have := (List.getElem?_eq_some_iff.1 e2).1
        omega
      subst hj
      simp only [Nat.mul_one, Nat.add_zero] at e3
      split at e1
      · rename_i hi
        rw [if_pos hi] at e3
        exact hcs _ c x v e1 e2 e3
      · rename_i hi
        rw [if_neg hi] at e3
        exact r6 i c 0 x v e1 e2 (by simpa using e3)
theorem dstWin_inv (hs : Sim μ M w H) {v : Value} {x : AV} (hv : VR M μ v x) {b lo n : Nat} (h : dstWin x H = some (b, lo, n)) : ∃ ty sz el g p l A c, H[b]? = some (.row ty sz el g p) ∧ μ b = some l ∧ v = .slice A n c ∧ lo + n ≤ el.length ∧ (0 < n → ∃ B, l.ad = some B ∧ A = some ⟨B, lo * sz, none⟩) := by
  unfold dstWin at h
  split at h
  · rename_i b' g
    split at h
    · rename_i ty sz el g' p e
      split at h
      · rename_i hg
        subst hg
        cases h
        obtain ⟨l, k1, k2, k3⟩ := hv.row_cur hs (by simp [genOf, e])
        obtain ⟨l', q1, q2, q3, q4, q5, q6, q7, q8⟩ := hs.blk b _ e
        rw [k1] at q1; cases q1
        refine ⟨ty, sz, el, g, p, l, _, l.cap, e, k1, by rw [k3, Loc.val, q3], by omega, fun hn => ?_⟩
        rcases q8 with ⟨r1, rfl, _⟩ | ⟨B, vs, r1, _⟩
        · simp at hn
        · exact ⟨B, r1, by rw [r1]; simp⟩
      · cases h
    · cases h
  · rename_i b' g lo' n'
    split at h
    · rename_i ty sz el g' p e
      split at h
      · rename_i hg
        subst hg
        cases h
        obtain ⟨l, q1, q2, q3, q4, q5, q6, q7, q8⟩ := hs.blk b _ e
        cases hv with
        | win _ _ _ _ _ l' hl hgl hh hcur =>
          rw [q1] at hl; cases hl
          obtain ⟨w1, rfl⟩ := hcur q2
          refine ⟨ty, sz, el, g, p, l, _, _, e, q1, rfl, by omega, fun hn => ?_⟩
          rcases q8 with ⟨r1, rfl, _⟩ | ⟨B, vs, r1, r2, r3, _⟩
          · simp at q3; omega
          · exact ⟨B, r1, by rw [if_neg (by omega), r1, q4]; rfl⟩
      · cases h
    · cases h
  · cases h
theorem putAt_nil {α : Type} (l : List α) (o : Nat) : putAt l o [] = l := by simp [putAt]
theorem op_cpy {d s : Arg} {y u : Operand} {o : Oper} {t ty : Nat} (ho : o.op = .call { callee := .builtin .copy, args := #[y, u], argTypes := #[t, t] }) (hok : okA d y = true) (hok2 : okA s u = true) (ht : P.underlying t = some (.slice ty)) (hsz : (P.info? ty).map (·.size) = some 1) (hs : Sim μ M w H) (he : EnvR M μ a env) {v : AV} {H' : Heap}
    (h : evOp (.cpy ty 1 d s) env H = some (v, H')) : Post μ M w H v H' ((execOp a.eval o).run P w) := by
  have hx := he.arg hok
  have hx2 := he.arg hok2
  simp only [evOp] at h
  split at h
  · rename_i b lo n xs e0 e1
    split at h
    · rename_i ty' sz' el g' p hb
      split at h
      · rename_i hc
        obtain ⟨rfl, rfl, hp, hall⟩ := hc
        simp only [Option.some.injEq, Prod.mk.injEq] at h
        obtain ⟨rfl, rfl⟩ := h
        obtain ⟨ty2, sz2, el2, g2, p2, l, A, c, d1, d2, d3, d4, d5⟩ := dstWin_inv hs hx e0
        rw [hb] at d1; cases d1
        obtain ⟨A2, c2, s1, s2⟩ := elems_news hs hx2 e1 (Nat.lt_succ_self 0) hall
        by_cases hz : min xs.length n = 0
        · have hempty : xs.take n = [] := by
            rw [← List.length_eq_zero_iff, List.length_take, Nat.min_comm]; exact hz
          rw [hempty, putAt_nil, hz]
          have hset : H.set b (.row ty 1 el g' p) = H := by
            apply List.ext_getElem?
            intro i
            rw [List.getElem?_set]
            by_cases e : b = i
            · subst e
              obtain ⟨hlt, hbe⟩ := List.getElem?_eq_some_iff.1 hb
              simp [hlt, hbe]
            · simp [e]
          rw [hset, show ((0 : Nat) : Int) = 0 from rfl]
          have hr := run_copy_none (P := P) w t t o.type ty A A2 n c xs.length c2 ht hsz hz
          refine .pure (v := .int .i64 0) hs (.d (.int _ _)) ?_
          simp [execOp, ho, resolve, invoke, builtin, d3, s1, hr, goInt]
        · have hn0 : 0 < n := by omega
          have hx0 : xs ≠ [] := fun e => by subst e; simp at hz
          obtain ⟨B, had, rfl⟩ := d5 hn0
          obtain ⟨ad, news, rfl, n1, n2, n3, n4⟩ := s2 hx0
          have hBlk : ∃ vs, w.heap[B]? = some (.cells vs ty (0, 0)) ∧ el.length ≤ vs.size := by
            obtain ⟨l', q1, q2, q3, q4, q5, q6, q7, q8⟩ := hs.blk b _ hb
            rw [d2] at q1; cases q1
            rcases q8 with ⟨r1, _, _⟩ | ⟨B', vs', r1, r2, r3, r4, _⟩
            · rw [r1] at had; cases had
            · rw [had] at r1; cases r1
              exact ⟨vs', r2, by rw [r4]; omega⟩
          obtain ⟨vs, hB, hvs⟩ := hBlk
          have hcl : (news.take (min xs.length n)).length = min xs.length n := by simp [n1]
          have hr := run_copy_row (P := P) w t t o.type ty B (lo * 1) n c ad xs.length c2 vs ty (news.take (min xs.length n)) ht hsz hB hcl (fun j v e => by
            rw [List.getElem?_take] at e
            split at e
            · exact n2 j v e
            · cases e) (by rw [hcl]; omega) (fun v hv => n3 v (List.mem_of_mem_take hv))
          rw [setRow_blk hB, Nat.mul_one] at hr
          have htl : (xs.take n).length = min xs.length n := by rw [List.length_take, Nat.min_comm]
          obtain ⟨r1, r2⟩ := hs.splice (ys := xs.take n) (cs := news.take (min xs.length n)) hb d2 had hB hp (by rw [htl]; omega) (by rw [hcl, htl]) (fun i c e => by
              have : xs[i]? = some c := by
                rw [List.getElem?_take] at e
                split at e
                · exact e
                · cases e
              have := List.all_eq_true.1 hall c (List.mem_of_getElem? this)
              simpa using this) (fun i c x u e2 e3 e4 => by
              rw [List.getElem?_take] at e2 e4
              split at e2
              · obtain ⟨u', f1, f2⟩ := n4 i c 0 x e2 e3
                split at e4
                · have f1 : news[i]? = some u' := by simpa using f1
                  rw [f1] at e4; cases e4; exact f2
                · cases e4
              · cases e2)
          refine ⟨.int .i64 (min xs.length n : Nat), _, μ, M, .inl ?_, .d (.int _ _), r1, r2⟩
          simp [execOp, ho, resolve, invoke, builtin, d3, s1, hr, goInt, hcl]
      · cases h
    · cases h
  · cases h
theorem op_clr {x : Arg} {y : Operand} {zero : List FV} {o : Oper} {t ty : Nat} {i : TypeInfo} {z : Value} (ho : o.op = .call { callee := .builtin .clear, args := #[y], argTypes := #[t] }) (hok : okA x y = true) (ht : P.underlying t = some (.slice ty)) (hi : P.info? ty = some i) (hz : i.zero = some z) (hzero : okCs zero z.cells.toList = true)
    (hs : Sim μ M w H) (he : EnvR M μ a env) {v : AV} {H' : Heap} (h : evOp (.clr ty 1 zero x) env H = some (v, H')) : Post μ M w H v H' ((execOp a.eval o).run P w) := by
  have hx := he.arg hok
  simp only [evOp] at h
  split at h
  · rename_i b lo n e0
    split at h
    · rename_i ty' sz' el g' p hb
      split at h
      · rename_i hc
        obtain ⟨rfl, rfl, hp, hzl⟩ := hc
        simp only [Option.some.injEq, Prod.mk.injEq] at h
        obtain ⟨rfl, rfl⟩ := h
        obtain ⟨ty2, sz2, el2, g2, p2, l, A, c, d1, d2, d3, d4, d5⟩ := dstWin_inv hs hx e0
        rw [hb] at d1; cases d1
        obtain ⟨z1, z2⟩ := okCs_sound (M := M) hzero
        have hzc : z.cells.size = 1 := by rw [← hzl]; simpa using z1
        obtain ⟨z0, hz0⟩ : ∃ z0, z.cells = #[z0] := by
          have : z.cells.toList.length = 1 := by simpa using hzc
          match hq : z.cells.toList, this with
          | [q], _ => exact ⟨q, by rw [← Array.toArray_toList (xs := z.cells), hq]⟩
        obtain ⟨x0, rfl⟩ : ∃ x0, zero = [x0] := by
          match zero, hzl with
          | [q], _ => exact ⟨q, rfl⟩
        have hfr : FR M z0 x0 := z2 0 z0 x0 (by rw [hz0]; rfl) rfl
        have hnil : VR M μ (.tuple #[]) (.tup []) := .tup _ _ rfl fun i v a e => by simp at e
        by_cases hn : n = 0
        · subst hn
          rw [List.replicate_zero, putAt_nil]
          have hset : H.set b (.row ty 1 el g' p) = H := by
            apply List.ext_getElem?
            intro i
            rw [List.getElem?_set]
            by_cases e : b = i
            · subst e
              obtain ⟨hlt, hbe⟩ := List.getElem?_eq_some_iff.1 hb
              simp [hlt, hbe]
            · simp [e]
          rw [hset]
          refine .pure hs hnil ?_
          cases A <;> simp [execOp, ho, resolve, invoke, builtin, Builtin.clear_, run_und ht, d3]
        · obtain ⟨B, had, rfl⟩ := d5 (by omega)
          have hBlk : ∃ vs, w.heap[B]? = some (.cells vs ty (0, 0)) ∧ el.length ≤ vs.size := by
            obtain ⟨l', q1, q2, q3, q4, q5, q6, q7, q8⟩ := hs.blk b _ hb
            rw [d2] at q1; cases q1
            rcases q8 with ⟨r1, _, _⟩ | ⟨B', vs', r1, r2, r3, r4, _⟩
            · rw [r1] at had; cases had
            · rw [had] at r1; cases r1
              exact ⟨vs', r2, by rw [r4]; omega⟩
          obtain ⟨vs, hB, hvs⟩ := hBlk
          have hzcs : (Builtin.zeroCells z.cells n).toList = List.replicate n z0 := by
            apply List.ext_getElem?
            intro i
            unfold Builtin.zeroCells
            rw [Array.getElem?_toList, zeros_get _ _ (by omega), hzc, List.getElem?_replicate, Nat.mul_one, Nat.mod_one, hz0]
            rfl
          have hst := run_storeCells_at P B (lo * 1) ty (List.replicate n z0) 0 vs w hB (by simp; omega) (fun u hu => by
            rw [List.eq_of_mem_replicate hu]; exact hfr.one)
          rw [setRow_blk hB, Nat.mul_one, Nat.add_zero] at hst
          obtain ⟨r1, r2⟩ := hs.splice (ys := List.replicate n [x0]) (cs := List.replicate n z0) hb d2 had hB hp (by simp; omega) (by simp) (fun i c e => by
              rw [List.eq_of_mem_replicate (List.mem_of_getElem? e)]; rfl) (fun i c x u e2 e3 e4 => by
              rw [List.eq_of_mem_replicate (List.mem_of_getElem? e4)]
              rw [List.eq_of_mem_replicate (List.mem_of_getElem? e2)] at e3
              cases e3
              exact hfr)
          have hzv := run_zero hi hz w
          refine ⟨.tuple #[], _, μ, M, .inl ?_, hnil, r1, r2⟩
          have hd3 : a.eval y = .slice (some ⟨B, lo, none⟩) n c := by rw [d3, Nat.mul_one]
          obtain ⟨m, rfl⟩ : ∃ m, n = m + 1 := ⟨n - 1, by omega⟩
          simp [execOp, ho, resolve, invoke, builtin, Builtin.clear_, run_und ht, hd3, hzv, hzcs, hst]
      · cases h
    · cases h
  · cases h
theorem op_app0 {s n : Arg} {y u : Operand} {zero : List FV} {o : Oper} {t tn ty sz bytes : Nat} {kn : IntKind} {i : TypeInfo} {z : Value} (ho : o.op = .call { callee := .builtin .append, args := #[y, u], argTypes := #[t, tn] }) (hok : okA s y = true) (hok2 : okA n u = true) (ht : P.underlying t = some (.slice ty)) (htn : P.underlying tn = some (.int kn))
    (hi : P.info? ty = some i) (hz : i.zero = some z) (hzero : okCs zero z.cells.toList = true) (hsz : i.size = sz) (hby : i.bytes = bytes) (hzs : zero.length = sz) (h0 : 0 < sz) (hb0 : 0 < bytes) (hs : Sim μ M w H) (he : EnvR M μ a env) {v : AV} {H' : Heap}
    (h : evOp (.app0 ty sz bytes zero s n) env H = some (v, H')) : Post μ M w H v H' ((execOp a.eval o).run P w) := by
  have hx := he.arg hok
  simp only [evOp] at h
  split at h
  · rename_i m e1
    split at h
    · rename_i hb
      obtain ⟨b1, b2⟩ := hb
      split at h
      · rename_i e2
        simp only [Option.some.injEq, Prod.mk.injEq] at h
        obtain ⟨rfl, rfl⟩ := h
        rw [e2] at hx
        obtain ⟨k, f1⟩ := intOf_inv (he.arg hok2) e1
        obtain ⟨m, rfl⟩ := Int.eq_ofNat_of_zero_le b1
        obtain ⟨z1, z2⟩ := okCs_sound (M := M) hzero
        have hzc : z.cells.size = sz := by rw [← hzs]; simpa using z1
        simp only [Int.toNat_natCast]
        simp only [maxBytes] at b2
        have hmb : m * bytes ≤ 140737488355328 := by
          have : ((m * bytes : Nat) : Int) ≤ 140737488355328 := by rw [Int.natCast_mul]; exact b2
          omega
        have hm : m ≤ 140737488355328 := by
          have : m * 1 ≤ m * bytes := Nat.mul_le_mul_left _ hb0
          omega
        by_cases hm0 : m = 0
        · subst hm0
          obtain ⟨l, k1, k2, k3⟩ := hs.nilRow ty sz h0
          refine ⟨.slice none 0 0, w, _, M, .inl ?_, k3, k1, k2⟩
          have hw0 : IntKind.i64.wrap 0 = 0 := by decide
          simp [execOp, ho, resolve, invoke, builtin, hx.nil_inv, f1, Builtin.append_, run_und ht, run_und htn, sizeOf, typeInfo, hi, asInt, asIntOf, hw0]
        · have hr := Lib.run_append_nil_zeros (P := P) w t tn o.type ty i z k kn ht htn hi hz m (by omega) (by omega) (by omega) (by rw [hby]; omega)
          obtain ⟨d1, d2⟩ := hs.drew
          have hcap : m ≤ grownCap w m 0 ty ∧ grownCap w m 0 ty ≤ 9223372036854775807 := by
            have e : grownCap w m 0 ty = m + w.tape w.drawn (.appendCap m 0 ty) % (2 ^ 63 - m) := rfl
            rw [e]
            have := Nat.mod_lt (w.tape w.drawn (.appendCap m 0 ty)) (show 0 < 2 ^ 63 - m by omega)
            exact ⟨Nat.le_add_right _ _, by omega⟩
          have hget : ∀ (i : Nat) (cs : List FV), (List.replicate m zero)[i]? = some cs → i < m ∧ cs = zero := fun i cs e => by
            rw [List.getElem?_replicate] at e
            split at e
            · rename_i hi
              cases e; exact ⟨hi, rfl⟩
            · cases e
          have hzsz : ∀ q, (Builtin.zeroCells z.cells q).size = q * sz := fun q => by simp [Builtin.zeroCells, hzc]
          obtain ⟨l, r1, r2, r3⟩ := d1.row ty sz m (grownCap w m 0 ty) (List.replicate m zero) (Builtin.zeroCells z.cells m ++ Builtin.zeroCells z.cells (grownCap w m 0 ty - m)) h0 (by simp) hcap.1 hcap.2
            (by rw [Array.size_append, hzsz, hzsz, ← Nat.add_mul]; congr 1; omega)
            (fun i cs e => by obtain ⟨_, rfl⟩ := hget i cs e; exact hzs)
            (fun i cs j x v e1 e2 e3 => by
              obtain ⟨hi', rfl⟩ := hget i cs e1
              have hj := (List.getElem?_eq_some_iff.1 e2).1
              have hlt : i * sz + j < m * sz := mul_lt hi' (by omega)
              rw [Array.getElem?_append_left (by rw [hzsz]; exact hlt)] at e3
              unfold Builtin.zeroCells at e3
              rw [zeros_get _ _ (by omega), hzc, if_pos hlt] at e3
              have hmod : (i * sz + j) % sz = j := by rw [Nat.mul_comm, Nat.mul_add_mod, Nat.mod_eq_of_lt (by omega)]
              rw [hmod] at e3
              exact z2 j v x (by simpa using e3) e2)
          refine ⟨_, _, _, M, .inl ?_, r3, r1, d2.trans r2⟩
          simp [execOp, ho, resolve, invoke, builtin, hx.nil_inv, f1, hr]
      · cases h
    · cases h
  · cases h
end
end Go.Vm
/- Every operation: which ones stand for which; that the evaluator tells what the machine does. -/
namespace Go.Vm
open Go
def sizeIs (P : Program) (t n : Nat) : Bool := match P.info? t with
  | some i => i.size == n
  | none => false
theorem sizeIs_sound {P : Program} {t n : Nat} (h : sizeIs P t n = true) : (P.info? t).map (·.size) = some n := by
  unfold sizeIs at h
  split at h
  · rename_i i e; simp at h; simp [e, h]
  · cases h
def sliceOf (P : Program) (t e : Nat) : Bool := match P.underlying t with
  | some (.slice e') => e == e'
  | _ => false
theorem sliceOf_sound {P : Program} {t e : Nat} (h : sliceOf P t e = true) : P.underlying t = some (.slice e) := by
  unfold sliceOf at h
  split at h
  · rename_i e' h'; simp at h; subst h; exact h'
  · cases h
def aggIs (P : Program) (t : Nat) (g : Bool) : Bool := match P.underlying t with
  | some d => isAggD d == g
  | none => false
theorem aggIs_sound {P : Program} {t : Nat} {g : Bool} (h : aggIs P t g = true) : ∃ d, P.underlying t = some d ∧ isAggD d = g := by
  unfold aggIs at h
  split at h
  · rename_i d e; simp at h; exact ⟨d, e, h⟩
  · cases h
/-- an element type: its zero cells, its size, its bytes -/
def elemIs (P : Program) (t sz bytes : Nat) (zero : List FV) : Bool := match P.info? t with
  | some i => match i.zero with
    | some z => okCs zero z.cells.toList && i.size == sz && i.bytes == bytes && zero.length == sz && decide (0 < sz) && decide (0 < bytes)
    | none => false
  | none => false
theorem elemIs_sound {P : Program} {t sz bytes : Nat} {zero : List FV} (h : elemIs P t sz bytes zero = true) : ∃ i z, P.info? t = some i ∧ i.zero = some z ∧ okCs zero z.cells.toList = true ∧ i.size = sz ∧ i.bytes = bytes ∧ zero.length = sz ∧ 0 < sz ∧ 0 < bytes := by
  unfold elemIs at h
  split at h
  · rename_i i e
    split at h
    · rename_i z e2
      simp only [Bool.and_eq_true, beq_iff_eq, decide_eq_true_eq] at h
      obtain ⟨⟨⟨⟨⟨h1, h2⟩, h3⟩, h4⟩, h5⟩, h6⟩ := h
      exact ⟨i, z, e, e2, h1, h2, h3, h4, h5, h6⟩
    · cases h
  · cases h
/-- an element type for append -/
def roomIs (P : Program) (t sz bytes : Nat) : Bool := match P.info? t with
  | some i => match i.zero with
    | some z => z.cells.size == sz && i.size == sz && i.bytes == bytes && decide (0 < sz) && decide (0 < bytes)
    | none => false
  | none => false
def okAs : List Arg → List Operand → Bool
  | [], [] => true
  | x :: xs, y :: ys => okA x y && okAs xs ys
  | _, _ => false
theorem okAs_sound : ∀ {xs : List Arg} {ys : List Operand}, okAs xs ys = true → ys.length = xs.length ∧ ∀ (i : Nat) (x : Arg) (y : Operand), xs[i]? = some x → ys[i]? = some y → okA x y = true
  | [], [], _ => ⟨rfl, fun i x y h => by simp at h⟩
  | x :: xs, y :: ys, h => by
    simp only [okAs, Bool.and_eq_true] at h
    obtain ⟨h1, h2⟩ := okAs_sound h.2
    refine ⟨by simp [h1], fun i a b e1 e2 => ?_⟩
    cases i with
    | zero => simp at e1 e2; subst e1; subst e2; exact h.1
    | succ i => exact h2 i a b (by simpa using e1) (by simpa using e2)
  | [], _ :: _, h => by simp [okAs] at h
  | _ :: _, [], h => by simp [okAs] at h

def okCall (P : Program) (o : AOp) (c : Call) : Bool :=
  match c.callee, c.args.toList, c.argTypes.toList with
  | .builtin .len, [y], [t] => match o with
    | .len x => okA x y && (match P.underlying t with | some (.slice _) => true | _ => false)
    | .lenS x => okA x y && (match P.underlying t with | some .string => true | _ => false)
    | .lenA n => (match P.underlying t with
      | some (.array m _) => n == m
      | some (.pointer p) => (match P.underlying p with | some (.array m _) => n == m | _ => false)
      | _ => false)
    | _ => false
  | .builtin .append, [y, u], [t, t'] => match o with
    | .app ty sz bytes s x => okA s y && okA x u && t == t' && sliceOf P t ty && roomIs P ty sz bytes
    | .appN ty bytes s x => okA s y && okA x u && t == t' && sliceOf P t ty && roomIs P ty 1 bytes
    | .app0 ty sz bytes zero s n => okA s y && okA n u && sliceOf P t ty && (match P.underlying t' with | some (.int _) => true | _ => false) && elemIs P ty sz bytes zero
    | _ => false
  | .builtin .cap, [y], [t] => match o with
    | .cap0 x => okA x y && (match P.underlying t with | some (.slice _) => true | _ => false)
    | _ => false
  | .builtin .clear, [y], [t] => match o with
    | .clr ty sz zero x => okA x y && sz == 1 && sliceOf P t ty && (match P.info? ty with | some i => (match i.zero with | some z => okCs zero z.cells.toList | none => false) | none => false)
    | _ => false
  | .builtin .copy, [y, u], [t, t'] => match o with
    | .cpy ty sz d s => okA d y && okA s u && t == t' && sz == 1 && sliceOf P t ty && sizeIs P ty 1
    | _ => false
  | .builtin .max, [y, u], _ => match o with
    | .mx x z => okA x y && okA z u
    | _ => false
  | .builtin .min, [y, u], _ => match o with
    | .mn x z => okA x y && okA z u
    | _ => false
  | .builtin .min, [y, u, q], _ => match o with
    | .mn3 x z p => okA x y && okA z u && okA p q
    | _ => false
  | .value (.func f), [y], _ => match o with
    | .fof x => okA x y && isExt P f "math.Float64frombits"
    | _ => false
  | _, _, _ => false

def okOp (P : Program) (o : AOp) (p : Op) : Bool :=
  match p with
  | .move y => match o with | .mv x => okA x y | _ => false
  | .assign y => match o with
    | .mv x => okA x y
    | .frz x => okA x y
    | .nilRow _ sz => decide (0 < sz) && (match y with | .const (.slice none 0 0) => true | _ => false)
    | _ => false
  | .pick c y z => match o with | .pick c' x u => okA c' c && okA x y && okA u z | _ => false
  | .alloc t => match o with
    | .alloc ty ini => ty == t && (match P.info? t with | some i => (match i.zero with | some z => okIs ini z.cells.toList | none => false) | none => false)
    | _ => false
  | .box t y => match o with | .box ty x => ty == t && okA x y | _ => false
  | .build t ps => match o with
    | .build zero parts => (match P.info? t with
      | some i => (match i.zero with
        | some z => okCs zero z.cells.toList && (match P.underlying t with
          | some (.struct fs) => fs.toList.all (fun f => (P.info? f.type).isSome) && okP (fieldPlace' P fs) parts ps.toList
          | some (.array _ e) => (match P.info? e with | some j => okP (fun i => some (i * j.size, j.size)) parts ps.toList | none => false)
          | _ => false)
        | none => false)
      | none => false)
    | _ => false
  | .buildSlice t m ps => match o with
    | .lit ty sz n zero parts => n == m && sliceOf P t ty && (match P.info? ty with
      | some i => (match i.zero with
        | some z => okCs zero z.cells.toList && i.size == sz && zero.length == sz && decide (0 < sz) && decide (n * sz ≤ 2 ^ 24) && okP (fun i => some (i * sz, sz)) (parts.map fun (i, a) => (i * sz, sz, a)) ps.toList
        | none => false)
      | none => false)
    | .litF ty sz n zero parts => n == m && sliceOf P t ty && (match P.info? ty with
      | some i => (match i.zero with
        | some z => okCs zero z.cells.toList && i.size == sz && zero.length == sz && decide (0 < sz) && decide (n * sz ≤ 2 ^ 24) && okP (fun i => some (i * sz, sz)) (parts.map fun (i, a) => (i * sz, sz, a)) ps.toList
        | none => false)
      | none => false)
    | .lits ty n parts => n == m && sliceOf P t ty && (match P.info? ty with
      | some i => (match i.zero with
        | some z => okCs [.nil] z.cells.toList && i.size == 1 && decide (n ≤ 2 ^ 24) && okP (fun i => some (i * 1, 1)) (parts.map fun (i, a) => (i * 1, 1, a)) ps.toList
        | none => false)
      | none => false)
    | _ => false
  | .load t y => match o with | .load n g x => okA x y && sizeIs P t n && aggIs P t g && (g || decide (0 < n)) | _ => false
  | .store t y u => match o with | .store n x z => okA x y && okA z u && sizeIs P t n | _ => false
  | .nilCheck y => match o with | .chk x => okA x y | _ => false
  | .binOp b t y z _ => match o with
    | .bin b' x u => b == b' && okBin P b t && okA x y && okA u z
    | .eqA n q x u => (b == if q then .neq else .eql) && flatT P t && ((match P.underlying t with | some (.struct fs) => fs.size | some (.array l _) => l | _ => 0) == n) && okA x y && okA u z
    | .eqB q x u => (b == if q then .neq else .eql) && (match P.underlying t with | some .bool => true | _ => false) && okA x y && okA u z
    | _ => false
  | .unOp b _ y => match o with | .un b' x => b == b' && okA x y | _ => false
  | .convert s t y => match o with
    | .conv k x => okA x y && (match P.underlying s, P.underlying t with | some (.int _), some (.int k') => k == k' | _, _ => false)
    | .i2f k x => okA x y && (match P.underlying s, P.underlying t with | some (.int _), some (.float k') => k == k' | _, _ => false)
    | _ => false
  | .makeInterface t y => match o with | .iface t' x => t == t' && okA x y && (match P.underlying t with | some (.interface _) => false | some _ => true | none => false) | _ => false
  | .makeFunc (.func f) first cs => match o with | .mkf g caps => f == g && first.isEmpty && okAs caps cs.toList | _ => false
  | .makeSlice t y z => match o with | .mksl ty sz bytes zero n c => okA n y && okA c z && sliceOf P t ty && elemIs P ty sz bytes zero | .mkrows ty bytes n c => okA n y && okA c z && sliceOf P t ty && elemIs P ty 1 bytes [.nil] | _ => false
  | .fieldAddr t y f => match o with
    | .fld off x => okA x y && (match P.underlying t with
      | some (.struct fs) => (match fs[f]? with | some fd => fd.offset == off && (match P.info? fd.type with | some i => decide (0 < i.size) | none => false) | none => false)
      | _ => false)
    | _ => false
  | .field t y f => match o with
    | .part off n g x => okA x y && (match P.underlying t with
      | some (.struct fs) => (match fs[f]? with | some fd => fd.offset == off && sizeIs P fd.type n && aggIs P fd.type g && (g || decide (0 < n)) | none => false)
      | _ => false)
    | _ => false
  | .indexAddr t y i => match o with
    | .ixa sz x j => okA x y && okA j i && (match P.underlying t with | some (.slice e) => sizeIs P e sz | _ => false)
    | .ixp sz len x j => okA x y && okA j i && (match P.underlying t with | some (.array l e) => l == len && sizeIs P e sz | _ => false)
    | _ => false
  | .index t y i => match o with
    | .ixs x j => okA x y && okA j i && (match P.underlying t with | some .string => true | _ => false)
    | .ixv sz len g x j => okA x y && okA j i && (match P.underlying t with | some (.array l e) => l == len && sizeIs P e sz && aggIs P e g && (g || decide (0 < sz)) | _ => false)
    | _ => false
  | .slice t y lo hi none => match o with
    | .cutS x l h => okA x y && okO l lo && okO h hi && (match P.underlying t with | some .string => true | _ => false)
    | .cut sz x l h => okA x y && okO l lo && okO h hi && (match P.underlying t with | some (.slice e) => sizeIs P e sz | _ => false)
    | .cutD sz x l h => okA x y && okO l lo && okO h hi && (match P.underlying t with | some (.slice e) => sizeIs P e sz | _ => false)
    | .winS sz x l h => okA x y && okO l lo && okO h hi && (match P.underlying t with | some (.slice e) => sizeIs P e sz | _ => false)
    | .pop x h => okA x y && (match lo, hi with | none, some h' => okA h h' | _, _ => false) && (match P.underlying t with | some (.slice e) => (P.info? e).isSome | _ => false)
    | _ => false
  | .extract y i => match o with | .ext x j => okA x y && i == j | _ => false
  | .makeMap t none => match o with | .mkmap ty => ty == t | _ => false
  | .lookup t y k false => match o with
    | .look n zero m kk => okA m y && okA kk k && (match P.underlying t with
      | some (.map kt et) => keyN P kt n && (match P.info? et with | some i => (match i.zero with | some z => okC zero z | none => false) | none => false)
      | _ => false)
    | _ => false
  | .mapUpdate t y k u => match o with
    | .upd n m kk x => okA m y && okA kk k && okA x u && (match P.underlying t with | some (.map kt _) => keyN P kt n | _ => false)
    | _ => false
  | .typeAssert y _ t true => match o with
    | .tassert t' agg zero x => t' == t && okA x y && (match P.underlying t with
      | some d => notIface d && (match P.info? t with | some i => (match i.zero with | some z => zeroIs agg zero z | none => false) | none => false)
      | none => false)
    | _ => false
  | .call c => okCall P o c
  | _ => false

section
variable {P : Program} {μ : Place} {M : Mem} {w : World} {H : Heap} {a : Act} {env : List AV}
theorem okCall_sound {o : Oper} {p : AOp} {c : Call} (ho : o.op = .call c) (hok : okCall P p c = true) (hs : Sim μ M w H) (he : EnvR M μ a env) {v : AV} {H' : Heap} (h : evOp p env H = some (v, H')) :
    Post μ M w H v H' ((execOp a.eval o).run P w) := by
  obtain ⟨callee, cargs, ctys⟩ := c
  unfold okCall at hok
  simp only at hok
  have toArr : ∀ {α : Type} {x : Array α} {l : List α}, x.toList = l → x = l.toArray := fun h => by rw [← h]
  split at hok
  · rename_i y t e1 e2
    have e1 := toArr e1
    have e2 := toArr e2
    subst e1; subst e2
    split at hok
    · simp only [Bool.and_eq_true] at hok
      obtain ⟨k1, k2⟩ := hok
      split at k2
      · rename_i e ht; exact op_len ho k1 ht hs he h
      · cases k2
    · simp only [Bool.and_eq_true] at hok
      obtain ⟨k1, k2⟩ := hok
      split at k2
      · rename_i ht; exact op_lenS ho k1 ht hs he h
      · cases k2
    · split at hok
      · rename_i m e ht
        simp at hok; subst hok
        exact op_lenA ho (.inl ⟨e, ht⟩) hs h
      · rename_i q ht
        split at hok
        · rename_i m e ht2
          simp at hok; subst hok
          exact op_lenA ho (.inr ⟨q, e, ht, ht2⟩) hs h
        · cases hok
      · cases hok
    · cases hok
  · rename_i y u t t' e1 e2
    have e1 := toArr e1
    have e2 := toArr e2
    subst e1; subst e2
    split at hok
    · rename_i ty sz bytes s x
      simp only [Bool.and_eq_true, beq_iff_eq] at hok
      obtain ⟨⟨⟨⟨k1, k2⟩, rfl⟩, k4⟩, k5⟩ := hok
      unfold roomIs at k5
      split at k5
      · rename_i i hi
        split at k5
        · rename_i z hz
          simp only [Bool.and_eq_true, beq_iff_eq, decide_eq_true_eq] at k5
          obtain ⟨⟨⟨⟨j1, j2⟩, j3⟩, j4⟩, j5⟩ := k5
          exact op_app ho k1 k2 (sliceOf_sound k4) hi hz j2 j3 j1 j4 j5 hs he h
        · cases k5
      · cases k5
    · simp only [Bool.and_eq_true, beq_iff_eq] at hok
      obtain ⟨⟨⟨⟨k1, k2⟩, rfl⟩, k4⟩, k5⟩ := hok
      unfold roomIs at k5
      split at k5
      · rename_i i hi
        split at k5
        · rename_i z hz
          simp only [Bool.and_eq_true, beq_iff_eq, decide_eq_true_eq] at k5
          obtain ⟨⟨⟨⟨j1, j2⟩, j3⟩, j4⟩, j5⟩ := k5
          exact op_appN ho k1 k2 (sliceOf_sound k4) hi hz j2 j3 j1 j5 hs he h
        · cases k5
      · cases k5
    · simp only [Bool.and_eq_true] at hok
      obtain ⟨⟨⟨⟨k1, k2⟩, k3⟩, k4⟩, k5⟩ := hok
      obtain ⟨i, z, hi, hz, j1, j2, j3, j4, j5, j6⟩ := elemIs_sound k5
      split at k4
      · rename_i kn htn
        exact op_app0 ho k1 k2 (sliceOf_sound k3) htn hi hz j1 j2 j3 j4 j5 j6 hs he h
      · cases k4
    · cases hok
  · rename_i y t e1 e2
    have e1 := toArr e1
    have e2 := toArr e2
    subst e1; subst e2
    split at hok
    · simp only [Bool.and_eq_true] at hok
      obtain ⟨k1, k2⟩ := hok
      split at k2
      · rename_i e ht; exact op_cap0 ho k1 ht hs he h
      · cases k2
    · cases hok
  · rename_i y t e1 e2
    have e1 := toArr e1
    have e2 := toArr e2
    subst e1; subst e2
    split at hok
    · simp only [Bool.and_eq_true, beq_iff_eq] at hok
      obtain ⟨⟨⟨k1, rfl⟩, k3⟩, k4⟩ := hok
      split at k4
      · rename_i i hi
        split at k4
        · rename_i z hz
          exact op_clr ho k1 (sliceOf_sound k3) hi hz k4 hs he h
        · cases k4
      · cases k4
    · cases hok
  · rename_i y u t t' e1 e2
    have e1 := toArr e1
    have e2 := toArr e2
    subst e1; subst e2
    split at hok
    · simp only [Bool.and_eq_true, beq_iff_eq] at hok
      obtain ⟨⟨⟨⟨⟨k1, k2⟩, rfl⟩, rfl⟩, k5⟩, k6⟩ := hok
      exact op_cpy ho k1 k2 (sliceOf_sound k5) (sizeIs_sound k6) hs he h
    · cases hok
  · rename_i y u e1
    have e1 := toArr e1
    subst e1
    split at hok
    · simp only [Bool.and_eq_true] at hok
      exact op_mx ho hok.1 hok.2 hs he h
    · cases hok
  · rename_i y u e1
    have e1 := toArr e1
    subst e1
    split at hok
    · simp only [Bool.and_eq_true] at hok
      exact op_mn ho hok.1 hok.2 hs he h
    · cases hok
  · rename_i y u q e1
    have e1 := toArr e1
    subst e1
    split at hok
    · simp only [Bool.and_eq_true] at hok
      exact op_mn3 ho hok.1.1 hok.1.2 hok.2 hs he h
    · cases hok
  · rename_i f y e1
    have e1 := toArr e1
    subst e1
    split at hok
    · simp only [Bool.and_eq_true] at hok
      exact op_fof ho hok.1 hok.2 hs he h
    · cases hok
  · cases hok
theorem evOp_sound {o : Oper} {p : AOp} (hok : okOp P p o.op = true) (hs : Sim μ M w H) (he : EnvR M μ a env) {v : AV} {H' : Heap} (h : evOp p env H = some (v, H')) :
    Post μ M w H v H' ((execOp a.eval o).run P w) := by
  have ho : o.op = o.op := rfl
  generalize hop : o.op = q at hok
  unfold okOp at hok
  split at hok
  · split at hok
    · exact op_mv (.inl hop) hok hs he h
    · cases hok
  · split at hok
    · exact op_mv (.inr hop) hok hs he h
    · exact op_frz (.inr hop) hok hs he h
    · rename_i y _ ty sz
      simp only [Bool.and_eq_true, decide_eq_true_eq] at hok
      obtain ⟨k1, k2⟩ := hok
      split at k2
      · exact op_nilRow (.inl hop) k1 hs h
      · cases k2
    · cases hok
  · split at hok
    · simp only [Bool.and_eq_true] at hok
      exact op_pick hop hok.1.1 hok.1.2 hok.2 hs he h
    · cases hok
  · split at hok
    · simp only [Bool.and_eq_true, beq_iff_eq] at hok
      obtain ⟨rfl, k2⟩ := hok
      split at k2
      · rename_i i hi
        split at k2
        · rename_i z hz
          exact op_alloc hop hi hz k2 hs h
        · cases k2
      · cases k2
    · cases hok
  · split at hok
    · simp only [Bool.and_eq_true, beq_iff_eq] at hok
      obtain ⟨rfl, k2⟩ := hok
      exact op_box hop k2 hs he h
    · cases hok
  · split at hok
    · split at hok
      · rename_i i hi
        split at hok
        · rename_i z hz
          simp only [Bool.and_eq_true] at hok
          obtain ⟨k1, k2⟩ := hok
          split at k2
          · rename_i fs ht
            simp only [Bool.and_eq_true] at k2
            exact op_build_struct hop ht hi hz k1 k2.1 k2.2 hs he h
          · rename_i l e ht
            split at k2
            · rename_i j hj
              exact op_build_arr (sz := j.size) hop ht hi hz k1 (by simp [hj]) k2 hs he h
            · cases k2
          · cases k2
        · cases hok
      · cases hok
    · cases hok
  · split at hok
    · simp only [Bool.and_eq_true, beq_iff_eq] at hok
      obtain ⟨⟨rfl, k1⟩, k2⟩ := hok
      split at k2
      · rename_i i hi
        split at k2
        · rename_i z hz
          simp only [Bool.and_eq_true, beq_iff_eq, decide_eq_true_eq] at k2
          obtain ⟨⟨⟨⟨⟨j1, j2⟩, j3⟩, j4⟩, j5⟩, j6⟩ := k2
          exact op_lit hop (sliceOf_sound k1) hi hz j1 j2 j3 j4 j5 j6 hs he h
        · cases k2
      · cases k2
    · simp only [Bool.and_eq_true, beq_iff_eq] at hok
      obtain ⟨⟨rfl, k1⟩, k2⟩ := hok
      split at k2
      · rename_i i hi
        split at k2
        · rename_i z hz
          simp only [Bool.and_eq_true, beq_iff_eq, decide_eq_true_eq] at k2
          obtain ⟨⟨⟨⟨⟨j1, j2⟩, j3⟩, j4⟩, j5⟩, j6⟩ := k2
          exact op_litF hop (sliceOf_sound k1) hi hz j1 j2 j3 j4 j5 j6 hs he h
        · cases k2
      · cases k2
    · simp only [Bool.and_eq_true, beq_iff_eq] at hok
      obtain ⟨⟨rfl, k1⟩, k2⟩ := hok
      split at k2
      · rename_i i hi
        split at k2
        · rename_i z hz
          simp only [Bool.and_eq_true, beq_iff_eq, decide_eq_true_eq] at k2
          obtain ⟨⟨⟨j1, j2⟩, j3⟩, j4⟩ := k2
          exact op_lits hop (sliceOf_sound k1) hi hz j1 j2 j3 j4 hs he h
        · cases k2
      · cases k2
    · cases hok
  · split at hok
    · rename_i n g x
      simp only [Bool.and_eq_true, Bool.or_eq_true, decide_eq_true_eq] at hok
      obtain ⟨⟨⟨k1, k2⟩, k3⟩, k4⟩ := hok
      obtain ⟨d, hd, hg⟩ := aggIs_sound k3
      exact op_load hop k1 hd hg (sizeIs_sound k2) (pos_of k4) hs he h
    · cases hok
  · split at hok
    · simp only [Bool.and_eq_true] at hok
      exact op_store hop hok.1.1 hok.1.2 (sizeIs_sound hok.2) hs he h
    · cases hok
  · split at hok
    · exact op_chk hop hok hs he h
    · cases hok
  · split at hok
    · simp only [Bool.and_eq_true, beq_iff_eq] at hok
      obtain ⟨⟨⟨rfl, k2⟩, k3⟩, k4⟩ := hok
      exact op_bin hop k3 k4 k2 hs he h
    · simp only [Bool.and_eq_true, beq_iff_eq] at hok
      obtain ⟨⟨⟨⟨rfl, k2⟩, k3⟩, k4⟩, k5⟩ := hok
      exact op_eqA hop k4 k5 k2 k3 hs he h
    · simp only [Bool.and_eq_true, beq_iff_eq] at hok
      obtain ⟨⟨⟨rfl, k2⟩, k3⟩, k4⟩ := hok
      split at k2
      · rename_i ht; exact op_eqB hop k3 k4 ht hs he h
      · cases k2
    · cases hok
  · split at hok
    · simp only [Bool.and_eq_true, beq_iff_eq] at hok
      obtain ⟨rfl, k2⟩ := hok
      exact op_un hop k2 hs he h
    · cases hok
  · split at hok
    · simp only [Bool.and_eq_true] at hok
      obtain ⟨k1, k2⟩ := hok
      split at k2
      · rename_i h1 h2
        simp at k2; subst k2
        exact op_conv hop k1 h1 h2 hs he h
      · cases k2
    · simp only [Bool.and_eq_true] at hok
      obtain ⟨k1, k2⟩ := hok
      split at k2
      · rename_i h1 h2
        simp at k2; subst k2
        exact op_i2f hop k1 h1 h2 hs he h
      · cases k2
    · cases hok
  · split at hok
    · simp only [Bool.and_eq_true, beq_iff_eq] at hok
      obtain ⟨⟨rfl, k1⟩, k2⟩ := hok
      split at k2
      · cases k2
      · rename_i d hn hd
        exact op_iface hop hd (fun ms e => hn ms e) k1 hs he h
      · cases k2
    · cases hok
  · split at hok
    · simp only [Bool.and_eq_true, beq_iff_eq] at hok
      obtain ⟨⟨rfl, k1⟩, k2⟩ := hok
      obtain ⟨j1, j2⟩ := okAs_sound k2
      have : ∀ {x : Array Operand}, x.isEmpty = true → x = #[] := fun h => by simpa using h
      have := this k1
      subst this
      exact op_mkf hop (by simpa using j1) (fun i x y e1 e2 => j2 i x y e1 (by simpa using e2)) hs he h
    · cases hok
  · split at hok
    · simp only [Bool.and_eq_true] at hok
      obtain ⟨⟨⟨k1, k2⟩, k3⟩, k4⟩ := hok
      obtain ⟨i, z, hi, hz, j1, j2, j3, j4, j5, j6⟩ := elemIs_sound k4
      exact op_mksl hop k1 k2 (sliceOf_sound k3) hi hz j1 j2 j3 j6 j4 j5 hs he h
    · simp only [Bool.and_eq_true] at hok
      obtain ⟨⟨⟨k1, k2⟩, k3⟩, k4⟩ := hok
      obtain ⟨i, z, hi, hz, j1, j2, j3, j4, j5, j6⟩ := elemIs_sound k4
      exact op_mkrows hop k1 k2 (sliceOf_sound k3) hi hz j1 j2 j3 j6 hs he h
    · cases hok
  · split at hok
    · simp only [Bool.and_eq_true] at hok
      obtain ⟨k1, k2⟩ := hok
      split at k2
      · rename_i fs ht
        split at k2
        · rename_i fd hf
          simp only [Bool.and_eq_true, beq_iff_eq] at k2
          obtain ⟨j1, j2⟩ := k2
          split at j2
          · rename_i i hi
            simp only [decide_eq_true_eq] at j2
            exact op_fld (n := i.size - 1) hop k1 ht hf j1 (by simp [hi]; omega) hs he h
          · cases j2
        · cases k2
      · cases k2
    · cases hok
  · split at hok
    · rename_i off n g x
      simp only [Bool.and_eq_true] at hok
      obtain ⟨k1, k2⟩ := hok
      split at k2
      · rename_i fs ht
        split at k2
        · rename_i fd hf
          simp only [Bool.and_eq_true, Bool.or_eq_true, beq_iff_eq, decide_eq_true_eq] at k2
          obtain ⟨⟨⟨j1, j2⟩, j3⟩, j4⟩ := k2
          obtain ⟨d, hd, hg⟩ := aggIs_sound j3
          exact op_part hop k1 ht hf j1 (sizeIs_sound j2) hd hg hs he (pos_of j4) h
        · cases k2
      · cases k2
    · cases hok
  · split at hok
    · simp only [Bool.and_eq_true] at hok
      obtain ⟨⟨k1, k2⟩, k3⟩ := hok
      split at k3
      · rename_i e ht; exact op_ixa hop k1 k2 ht (sizeIs_sound k3) hs he h
      · cases k3
    · simp only [Bool.and_eq_true] at hok
      obtain ⟨⟨k1, k2⟩, k3⟩ := hok
      split at k3
      · rename_i l e ht
        simp only [Bool.and_eq_true, beq_iff_eq] at k3
        obtain ⟨rfl, k4⟩ := k3
        exact op_ixp hop k1 k2 ht (sizeIs_sound k4) hs he h
      · cases k3
    · cases hok
  · split at hok
    · simp only [Bool.and_eq_true] at hok
      obtain ⟨⟨k1, k2⟩, k3⟩ := hok
      split at k3
      · rename_i ht; exact op_ixs hop k1 k2 ht hs he h
      · cases k3
    · rename_i sz len g x j
      simp only [Bool.and_eq_true] at hok
      obtain ⟨⟨k1, k2⟩, k3⟩ := hok
      split at k3
      · rename_i l e ht
        simp only [Bool.and_eq_true, Bool.or_eq_true, beq_iff_eq, decide_eq_true_eq] at k3
        obtain ⟨⟨⟨rfl, j2⟩, j3⟩, j4⟩ := k3
        obtain ⟨d, hd, hg⟩ := aggIs_sound j3
        exact op_ixv hop k1 k2 ht (sizeIs_sound j2) hd hg (pos_of j4) hs he h
      · cases k3
    · cases hok
  · split at hok
    · simp only [Bool.and_eq_true] at hok
      obtain ⟨⟨⟨k1, k2⟩, k3⟩, k4⟩ := hok
      split at k4
      · rename_i ht; exact op_cutS hop k1 k2 k3 ht hs he h
      · cases k4
    · simp only [Bool.and_eq_true] at hok
      obtain ⟨⟨⟨k1, k2⟩, k3⟩, k4⟩ := hok
      split at k4
      · rename_i e ht; exact op_cut hop k1 k2 k3 ht (sizeIs_sound k4) hs he h
      · cases k4
    · simp only [Bool.and_eq_true] at hok
      obtain ⟨⟨⟨k1, k2⟩, k3⟩, k4⟩ := hok
      split at k4
      · rename_i e ht; exact op_cut hop k1 k2 k3 ht (sizeIs_sound k4) hs he (op_cutD (t := 0) (e := 0) (y := .func 0) (lo' := none) (hi' := none) h)
      · cases k4
    · simp only [Bool.and_eq_true] at hok
      obtain ⟨⟨⟨k1, k2⟩, k3⟩, k4⟩ := hok
      split at k4
      · rename_i e ht; exact op_winS hop k1 k2 k3 ht (sizeIs_sound k4) hs he h
      · cases k4
    · simp only [Bool.and_eq_true] at hok
      obtain ⟨⟨k1, k2⟩, k4⟩ := hok
      split at k2
      · split at k4
        · rename_i e ht
          obtain ⟨j, hj⟩ := Option.isSome_iff_exists.1 k4
          exact op_pop (sz := j.size) hop k1 k2 ht (by simp [hj]) hs he h
        · cases k4
      · cases k2
    · cases hok
  · split at hok
    · simp only [Bool.and_eq_true, beq_iff_eq] at hok
      obtain ⟨k1, rfl⟩ := hok
      exact op_ext hop k1 hs he h
    · cases hok
  · split at hok
    · simp only [beq_iff_eq] at hok
      subst hok
      exact op_mkmap hop hs h
    · cases hok
  · split at hok
    · simp only [Bool.and_eq_true] at hok
      obtain ⟨⟨k1, k2⟩, k3⟩ := hok
      split at k3
      · rename_i kt et ht
        simp only [Bool.and_eq_true] at k3
        obtain ⟨k3, k4⟩ := k3
        split at k4
        · rename_i i hi
          split at k4
          · rename_i z hz
            exact op_look hop k1 k2 ht k3 hi hz k4 hs he h
          · cases k4
        · cases k4
      · cases k3
    · cases hok
  · split at hok
    · simp only [Bool.and_eq_true] at hok
      obtain ⟨⟨⟨k1, k2⟩, k3⟩, k4⟩ := hok
      split at k4
      · rename_i kt et ht
        exact op_upd hop k1 k2 k3 ht k4 hs he h
      · cases k4
    · cases hok
  · split at hok
    · simp only [Bool.and_eq_true, beq_iff_eq] at hok
      obtain ⟨⟨rfl, k2⟩, k3⟩ := hok
      split at k3
      · rename_i d ht
        simp only [Bool.and_eq_true] at k3
        obtain ⟨k3, k4⟩ := k3
        split at k4
        · rename_i i hi
          split at k4
          · rename_i z hz
            exact op_tassert hop k2 ht k3 hi hz k4 hs he h
          · cases k4
        · cases k4
      · cases k3
    · cases hok
  · exact okCall_sound hop hok hs he h
  · cases hok
end
end Go.Vm
/- A call: the callee on a heap of its own, and back. -/
namespace Go.Vm
open Go
/-- from one state to a later one, of which only the first k blocks bear their names still -/
structure Nk (k : Nat) (μ : Place) (M : Mem) (w : World) (H : Heap) (μ' : Place) (M' : Mem) (w' : World) (H' : Heap) : Prop where
  mem : ∀ b o v, M b o = some v → M' b o = some v
  loc : ∀ b l, b < k → μ b = some l → ∃ l', μ' b = some l' ∧ (l' = l ∨ l.g < l'.g)
  len : k ≤ H'.length
  fr : Fr (owns μ H) w w'
  own : ∀ B, owns μ' H' B → owns μ H B ∨ w.heap.size ≤ B
  new : ∀ b o v, M' b o = some v → M b o = some v ∨ owns μ H b ∨ w.heap.size ≤ b
theorem Nk.refl {k : Nat} (μ : Place) (M : Mem) (w : World) (H : Heap) (hk : k ≤ H.length) : Nk k μ M w H μ M w H :=
  ⟨fun _ _ _ h => h, fun _ l _ h => ⟨l, h, .inl rfl⟩, hk, (Nx.refl μ M w H).fr, fun _ h => .inl h, fun _ _ _ h => .inl h⟩
theorem Nk.trans {k : Nat} {μ μ1 μ2 : Place} {M M1 M2 : Mem} {w w1 w2 : World} {H H1 H2 : Heap} (h : Nk k μ M w H μ1 M1 w1 H1) (q : Nk k μ1 M1 w1 H1 μ2 M2 w2 H2) : Nk k μ M w H μ2 M2 w2 H2 where
  mem := fun b o v e => q.mem _ _ _ (h.mem _ _ _ e)
  loc := fun b l hb e => by
    obtain ⟨l1, e1, h1⟩ := h.loc b l hb e
    obtain ⟨l2, e2, h2⟩ := q.loc b l1 hb e1
    refine ⟨l2, e2, ?_⟩
    rcases h1 with rfl | h1 <;> rcases h2 with rfl | h2
    · exact .inl rfl
    · exact .inr h2
    · exact .inr h1
    · exact .inr (Nat.lt_trans h1 h2)
  len := q.len
  fr := ⟨q.fr.os.trans h.fr.os, q.fr.tape.trans h.fr.tape, q.fr.output.trans h.fr.output, Nat.le_trans h.fr.size q.fr.size, fun B hB hn => by
    rw [← h.fr.block B hB hn]
    refine q.fr.block B (Nat.lt_of_lt_of_le hB h.fr.size) fun ho => ?_
    rcases h.own B ho with h1 | h1
    · exact hn h1
    · omega⟩
  own := fun B hB => by
    rcases q.own B hB with h1 | h1
    · exact h.own B h1
    · exact .inr (Nat.le_trans h.fr.size h1)
  new := fun b o v e => by
    rcases q.new b o v e with h1 | h1 | h1
    · exact h.new b o v h1
    · rcases h.own b h1 with h2 | h2
      · exact .inr (.inl h2)
      · exact .inr (.inr h2)
    · exact .inr (.inr (Nat.le_trans h.fr.size h1))
theorem Nx.nk {k : Nat} {μ μ' : Place} {M M' : Mem} {w w' : World} {H H' : Heap} (h : Nx μ M w H μ' M' w' H') (hs : Sim μ M w H) (hs' : Sim μ' M' w' H') (hk : k ≤ H.length) : Nk k μ M w H μ' M' w' H' where
  mem := h.ext.mem
  loc := fun b l _ e => h.ext.loc b l e
  len := by
    cases k with
    | zero => exact Nat.zero_le _
    | succ k =>
      obtain ⟨l, e, _⟩ := (hs.blk k (H[k]'(by omega)) (by simp [show k < H.length by omega])).loc
      obtain ⟨l', e', _⟩ := h.ext.loc k l e
      rcases Nat.lt_or_ge k H'.length with q | q
      · exact q
      · rw [hs'.dom k q] at e'; cases e'
  fr := h.fr
  own := h.own
  new := h.mem

theorem bitsM_lt (m : Nat) : ∀ (H : Heap) (i : Nat), ∀ b ∈ bitsM m i H, i ≤ b ∧ b < i + H.length
  | [], i, b, hb => by simp [bitsM] at hb
  | k :: r, i, b, hb => by
    simp only [bitsM] at hb
    have ih := bitsM_lt m r (i + 1) b
    cases ht : Nat.testBit m i <;> rw [ht] at hb <;> simp at hb
    · have := ih hb; simp; omega
    · rcases hb with rfl | hb
      · simp
      · have := ih hb; simp; omega
theorem bitsM_nodup (m : Nat) : ∀ (H : Heap) (i : Nat), (bitsM m i H).Nodup
  | [], i => by simp [bitsM]
  | k :: r, i => by
    simp only [bitsM]
    cases ht : Nat.testBit m i <;> simp
    · exact bitsM_nodup m r (i + 1)
    · exact ⟨fun h => by have := (bitsM_lt m r (i + 1) i h).1; omega, bitsM_nodup m r (i + 1)⟩
theorem reach_lt (H : Heap) (s : List Nat) : ∀ b ∈ reach H s, b < H.length := fun b hb => by
  unfold reach at hb
  split at hb
  · simp at hb
  · have := (bitsM_lt _ H 0 b hb).2; omega
theorem reach_nodup (H : Heap) (s : List Nat) : (reach H s).Nodup := by
  unfold reach
  split
  · simp
  · exact bitsM_nodup _ _ _
theorem roots_lt {k : Nat} {H : Heap} (hk : k ≤ H.length) (s : List Nat) : ∀ b ∈ roots k H s, b < H.length := fun b hb => by
  unfold roots at hb
  rcases List.mem_append.1 hb with h | h
  · have := List.mem_range.1 h; omega
  · exact reach_lt _ _ b (List.mem_filter.1 h).1
theorem roots_nodup (k : Nat) (H : Heap) (s : List Nat) : (roots k H s).Nodup := by
  unfold roots
  refine List.nodup_append.2 ⟨List.nodup_range, List.Pairwise.filter _ (reach_nodup _ _), fun a ha b hb e => ?_⟩
  subst e
  have h1 := List.mem_range.1 ha
  have h2 := (List.mem_filter.1 hb).2
  simp at h2
  omega
theorem roots_get {k : Nat} {H : Heap} (s : List Nat) {b : Nat} (hb : b < k) : (roots k H s)[b]? = some b := by
  unfold roots
  rw [List.getElem?_append_left (by simpa using hb), List.getElem?_range hb]
theorem rebase_len {μ : Place} {M : Mem} {w : World} {H : Heap} (hs : Sim μ M w H) (L : List Nat) (gn : Nat → Nat → Nat) (hr : ∀ b ∈ L, b < H.length) : (rebase H L gn).length = L.length := by
  refine filterMap_len _ L fun b hb => ?_
  have hlt := hr b hb
  have hk : H[b]? = some (H[b]'hlt) := by simp [hlt]
  obtain ⟨l, h1, h2⟩ := hs.gen hk
  simp [rebOne, hk, h2]
/-- the heap settled: old blocks stay, dead new ones go -/
theorem Sim.settle {k : Nat} {μ : Place} {M : Mem} {w : World} {H : Heap} (hs : Sim μ M w H) (hk : k ≤ H.length) (s : List Nat) :
    Sim (placeOf μ (roots k H s) (above k)) M w (Vm.rebase H (roots k H s) (above k)) ∧ RenOK μ (placeOf μ (roots k H s) (above k)) (renOf H (roots k H s) (above k)) ∧
      Nk k μ M w H (placeOf μ (roots k H s) (above k)) M w (Vm.rebase H (roots k H s) (above k)) := by
  have hr := roots_lt hk s
  have hz : ∀ b, above k b 0 = 0 := fun b => by unfold above; split <;> rfl
  refine ⟨hs.rebase _ _ (roots_nodup _ _ _) hr hz, RenOK.renOf hs _ _, ⟨fun _ _ _ h => h, fun b l hb e => ?_, ?_, (Nx.refl μ M w H).fr, fun B h => .inl (owns_placeOf hr h), fun _ _ _ h => .inl h⟩⟩
  · refine ⟨l, ?_, .inl rfl⟩
    simp [placeOf, roots_get s hb, e, above, hb]
  · rw [rebase_len hs _ _ hr]
    unfold roots
    simp

/-- what a call's end says -/
def ResOK (M : Mem) (μ : Place) (r : Res) (e : Ending) : Prop := match r with
  | .ret v => ∃ u, e = .returned u ∧ VR M μ u v
  | .pan v => ∃ u, e = .panicked [⟨u, false, false⟩] ∧ VR M μ u v
def CallOK (P : Program) (C : Oracle) : Prop := ∀ (f : Nat) (args : List AV) (H : Heap) (r : Res) (H' : Heap), C f args H = some (r, H') → ∀ (μ : Place) (M : Mem) (w : World) (vs : Array Value), Sim μ M w H → VRs M μ vs args →
  Calls P f vs w fun e w' => ∃ μ' M', Sim μ' M' w' H' ∧ Nk H.length μ M w H μ' M' w' H' ∧ ResOK M' μ' r e
theorem ResOK.ren {M : Mem} {μ μ' : Place} {ρ : Ren} (hρ : RenOK μ μ' ρ) {r : Res} {e : Ending} (h : ResOK M μ r e) : ResOK M μ' (r.map (ren ρ)) e := by
  cases r with
  | ret v => obtain ⟨u, e1, e2⟩ := h; exact ⟨u, e1, e2.ren hρ⟩
  | pan v => obtain ⟨u, e1, e2⟩ := h; exact ⟨u, e1, e2.ren hρ⟩
def HandOK (a : AV) : Prop := ∀ (μ : Place) (M : Mem) (w : World) (H H' : Heap) (v : Value) (x : AV), Sim μ M w H → VR M μ v a → hand a H = some (x, H') → ∃ M', VR M' μ v x ∧ Fzs μ M w H M' H'
mutual
theorem hand_sound : ∀ (a : AV), HandOK a
  | .d x => fun μ M w H H' v y hs hv h => by
    simp only [hand, Option.some.injEq, Prod.mk.injEq] at h
    obtain ⟨rfl, rfl⟩ := h
    exact ⟨M, .d hv.d_inv.norm, .refl hs⟩
  | .row b g => fun μ M w H H' v y hs hv h => by
    simp only [hand] at h
    split at h
    · rename_i x H1 e
      simp only [Option.some.injEq, Prod.mk.injEq] at h
      obtain ⟨rfl, rfl⟩ := h
      obtain ⟨M1, k1, k2⟩ := fz_sound _ _ _ _ _ _ _ _ hs hv e
      exact ⟨M1, .d k1, k2⟩
    · cases h
  | .agg cs => fun μ M w H H' v y hs hv h => by
    simp only [hand] at h
    split at h
    · rename_i cs' H1 e
      simp only [Option.some.injEq, Prod.mk.injEq] at h
      obtain ⟨rfl, rfl⟩ := h
      obtain ⟨vs, rfl, hvs⟩ := hv.agg_inv
      obtain ⟨M1, k1, k2⟩ := hands_sound cs μ M w H H1 vs cs' hs hvs e
      exact ⟨M1, .agg _ _ k1.1 k1.2, k2⟩
    · cases h
  | .tup cs => fun μ M w H H' v y hs hv h => by
    simp only [hand] at h
    split at h
    · rename_i cs' H1 e
      simp only [Option.some.injEq, Prod.mk.injEq] at h
      obtain ⟨rfl, rfl⟩ := h
      obtain ⟨vs, rfl, hvs⟩ := hv.tup_inv
      obtain ⟨M1, k1, k2⟩ := hands_sound cs μ M w H H1 vs cs' hs hvs e
      exact ⟨M1, .tup _ _ k1.1 k1.2, k2⟩
    · cases h
  | .bptr b j => fun μ M w H H' v y hs hv h => by
    simp only [hand, Option.some.injEq, Prod.mk.injEq] at h
    obtain ⟨rfl, rfl⟩ := h
    exact ⟨M, hv, .refl hs⟩
  | .win b g i j => fun μ M w H H' v y hs hv h => by
    simp only [hand, Option.some.injEq, Prod.mk.injEq] at h
    obtain ⟨rfl, rfl⟩ := h
    exact ⟨M, hv, .refl hs⟩
  | .eptr b g i j => fun μ M w H H' v y hs hv h => by
    simp only [hand, Option.some.injEq, Prod.mk.injEq] at h
    obtain ⟨rfl, rfl⟩ := h
    exact ⟨M, hv, .refl hs⟩
  | .fptr cs => fun μ M w H H' v y hs hv h => by
    simp only [hand, Option.some.injEq, Prod.mk.injEq] at h
    obtain ⟨rfl, rfl⟩ := h
    exact ⟨M, hv, .refl hs⟩
  | .map b => fun μ M w H H' v y hs hv h => by
    simp only [hand, Option.some.injEq, Prod.mk.injEq] at h
    obtain ⟨rfl, rfl⟩ := h
    exact ⟨M, hv, .refl hs⟩
  | .func f cs => fun μ M w H H' v y hs hv h => by
    simp only [hand, Option.some.injEq, Prod.mk.injEq] at h
    obtain ⟨rfl, rfl⟩ := h
    exact ⟨M, hv, .refl hs⟩
  | .iface t x => fun μ M w H H' v y hs hv h => by
    simp only [hand, Option.some.injEq, Prod.mk.injEq] at h
    obtain ⟨rfl, rfl⟩ := h
    exact ⟨M, hv, .refl hs⟩
  | .undef => fun μ M w H H' v y hs hv h => by
    simp only [hand, Option.some.injEq, Prod.mk.injEq] at h
    obtain ⟨rfl, rfl⟩ := h
    exact ⟨M, hv, .refl hs⟩
theorem hands_sound : ∀ (l : List AV) (μ : Place) (M : Mem) (w : World) (H H' : Heap) (vs : Array Value) (l' : List AV), Sim μ M w H → VRs M μ vs l → hands l H = some (l', H') → ∃ M', VRs M' μ vs l' ∧ Fzs μ M w H M' H'
  | [] => fun μ M w H H' vs l' hs hv h => by
    simp only [hands, Option.some.injEq, Prod.mk.injEq] at h
    obtain ⟨rfl, rfl⟩ := h
    exact ⟨M, hv, .refl hs⟩
  | a :: r => fun μ M w H H' vs l' hs hv h => by
    simp only [hands] at h
    split at h
    · rename_i x H1 e1
      split at h
      · rename_i xs H2 e2
        simp only [Option.some.injEq, Prod.mk.injEq] at h
        obtain ⟨rfl, rfl⟩ := h
        have hsz := hv.1
        have h0 : vs[0]? = some (vs[0]'(by simp at hsz; omega)) := by simp [show 0 < vs.size by simp at hsz; omega]
        obtain ⟨M1, k1, k2⟩ := hand_sound a μ M w H H1 _ x hs (hv.2 0 _ a h0 rfl) e1
        obtain ⟨M2, q1, q2⟩ := hands_sound r μ M1 w H1 H2 (vs.extract 1 vs.size) xs k2.sim ⟨by simp at hsz ⊢; omega, fun i v y f1 f2 => by
          rw [Array.getElem?_extract] at f1
          split at f1
          · refine (hv.2 (i + 1) v y (by rw [Nat.add_comm]; exact f1) (by simpa using f2)).ext k2.nx.ext
          · cases f1⟩ e2
        refine ⟨M2, ⟨by have := q1.1; simp at this hsz ⊢; omega, fun i v y f1 f2 => ?_⟩, k2.trans q2⟩
        cases i with
        | zero =>
          rw [h0] at f1
          simp at f2
          cases f1; subst f2
          exact k1.ext q2.nx.ext
        | succ i =>
          have hi := (Array.getElem?_eq_some_iff.1 f1).1
          refine q1.2 i v y ?_ (by simpa using f2)
          rw [Array.getElem?_extract, if_pos (by omega), Nat.add_comm]
          exact f1
      · cases h
    · cases h
end

theorem get_idxOf {L : List Nat} (hL : L.Nodup) {b i : Nat} (h : L[i]? = some b) : L.idxOf? b = some i := by
  obtain ⟨hi, e⟩ := List.getElem?_eq_some_iff.1 h
  rw [List.idxOf?_eq_some_iff]
  refine ⟨hi, by simpa using e, fun j hj hji => ?_⟩
  have := (List.pairwise_iff_getElem.1 hL) j i (by omega) hi hj
  exact this (hji.trans e.symm)
/-- the caller's places, after the call -/
def backPlace (μ : Place) (H : Heap) (L : List Nat) (μK : Place) : Place := fun b =>
  if b < H.length then match L.idxOf? b with
    | some i => (μK i).map fun l => { l with g := (genOf H b).getD 0 + l.g }
    | none => μ b
  else μK (b - H.length + L.length)
def backIx (H : Heap) (L : List Nat) (i : Nat) : Nat := match L[i]? with
  | some b => b
  | none => H.length + (i - L.length)
theorem backPlace_src {μ : Place} {H : Heap} {L : List Nat} {μK : Place} (hL : L.Nodup) {x : Nat} {l : Loc} (h : backPlace μ H L μK x = some l) :
    (∃ i l0, backIx H L i = x ∧ μK i = some l0 ∧ l0.ad = l.ad) ∨ (x < H.length ∧ L.idxOf? x = none ∧ μ x = some l) := by
  unfold backPlace at h
  split at h
  · rename_i hx
    split at h
    · rename_i i e
      simp only [Option.map_eq_some_iff] at h
      obtain ⟨l0, h1, rfl⟩ := h
      exact .inl ⟨i, l0, by simp [backIx, idxOf_get e], h1, rfl⟩
    · rename_i e; exact .inr ⟨hx, e, h⟩
  · refine .inl ⟨_, l, ?_, h, rfl⟩
    simp [backIx]
    omega
theorem backPlace_ren {μ : Place} {M M' : Mem} {w w' : World} {H K : Heap} {L : List Nat} {μK : Place} (hs : Sim μ M w H) (hK : Sim μK M' w' K) (hL : L.Nodup) (hr : ∀ b ∈ L, b < H.length) : RenOK μK (backPlace μ H L μK) (backOf H L K) := by
  intro x b' g0 g1 l h hl
  unfold backOf at h
  split at h
  · cases h
  · rename_i g e
    have hg := hK.gen' e hl
    split at h
    · rename_i b eb
      split at h
      · rename_i gb eg
        simp only [Option.some.injEq, Prod.mk.injEq] at h
        obtain ⟨h1, h2, h3⟩ := h
        subst h1
        subst h2
        subst h3
        refine ⟨hg, ?_⟩
        have hb := hr b (List.mem_of_getElem? eb)
        simp [backPlace, hb, get_idxOf hL eb, hl, eg, hg]
      · cases h
    · rename_i eb
      cases h
      refine ⟨hg, ?_⟩
      have hx : L.length ≤ x := by simpa using eb
      have : ¬ (H.length + (x - L.length) < H.length) := by omega
      simp only [backPlace, this, if_false]
      rw [show H.length + (x - L.length) - H.length + L.length = x by omega, hl, ← hg]
theorem still_le {H : Heap} {L : List Nat} {K : Heap} (h : still H L K = true) {i : Nat} (hi : i < L.length) : ∃ b k, L[i]? = some b ∧ K[i]? = some k ∧ (match k with | .row .. => True | .rows .. => True | _ => genOf H b = some 0) := by
  unfold still at h
  have := List.all_eq_true.1 h i (List.mem_range.2 hi)
  split at this
  · rename_i e1 e2; exact ⟨_, _, e1, e2, trivial⟩
  · rename_i e1 e2; exact ⟨_, _, e1, e2, trivial⟩
  · rename_i b k n1 n2 e1 e2
    refine ⟨b, k, e1, e2, ?_⟩
    split
    · trivial
    · trivial
    · simpa using this
  · cases this
theorem still_len {H : Heap} {L : List Nat} {K : Heap} (h : still H L K = true) : L.length ≤ K.length := by
  rcases Nat.lt_or_ge K.length L.length with q | q
  · obtain ⟨b, k, _, e, _⟩ := still_le h q
    simp at e
  · exact q
theorem backHeap_len {H : Heap} {L : List Nat} {K : Heap} : (backHeap H L K).length = H.length + (K.length - L.length) := by
  simp [backHeap]
def freshB (H : Heap) (L : List Nat) (K : Heap) (k : Blk) : Blk := match k with
  | .row _ _ _ g _ => renB (backOf H L K) g k
  | .rows _ _ g _ => renB (backOf H L K) g k
  | k => renB (backOf H L K) 0 k
def overB (H : Heap) (L : List Nat) (K : Heap) (k : Blk) (b : Nat) : Blk := match L.idxOf? b with
  | some i => match K[i]?, backOf H L K i with
    | some k', some (_, _, g) => renB (backOf H L K) g k'
    | _, _ => k
  | none => k
theorem backHeap_eq (H : Heap) (L : List Nat) (K : Heap) : backHeap H L K = (H.zipIdx.map fun p => overB H L K p.1 p.2) ++ (K.drop L.length).map (freshB H L K) := rfl
theorem backHeap_get1 {H : Heap} {L : List Nat} {K : Heap} {b : Nat} (hb : b < H.length) : (backHeap H L K)[b]? = some (overB H L K H[b] b) := by
  rw [backHeap_eq, List.getElem?_append_left (by simpa using hb)]
  simp [hb]
theorem backHeap_get2 {H : Heap} {L : List Nat} {K : Heap} {b : Nat} (hb : H.length ≤ b) : (backHeap H L K)[b]? = (K[L.length + (b - H.length)]?).map (freshB H L K) := by
  rw [backHeap_eq, List.getElem?_append_right (by simpa using hb)]
  simp
theorem callOn_back {μ μK : Place} {M M' : Mem} {w w' : World} {H K : Heap} {L : List Nat} (hs : Sim μ M w H) (hK : Sim μK M' w' K) (hL : L.Nodup) (hr : ∀ b ∈ L, b < H.length) (hst : still H L K = true)
    (hn : Nk L.length (placeOf μ L anew) M w (rebase H L anew) μK M' w' K) : Sim (backPlace μ H L μK) M' w' (backHeap H L K) ∧ Nx μ M w H (backPlace μ H L μK) M' w' (backHeap H L K) := by
  have hρ := backPlace_ren hs hK hL hr
  have hlen := still_len hst
  have oldK : ∀ B, owns μK K B → owns μ H B ∨ w.heap.size ≤ B := fun B h => (hn.own B h).imp_left (owns_placeOf hr)
  have apartK : ∀ x l B, x < H.length → L.idxOf? x = none → μ x = some l → l.ad = some B → ¬ owns (placeOf μ L anew) (rebase H L anew) B := fun x l B hx hi hl hB ho => by
    obtain ⟨i, l1, h1, h2, h3⟩ := ho
    simp only [placeOf] at h2
    cases hLi : L[i]? with
    | none => rw [hLi] at h2; cases h2
    | some b =>
      rw [hLi] at h2
      simp only [Option.bind_some, Option.map_eq_some_iff] at h2
      obtain ⟨m, e1, rfl⟩ := h2
      refine hs.apart x b l m B hx (hr b (List.mem_of_getElem? hLi)) (fun e => ?_) hl e1 hB h3
      subst e
      rw [get_idxOf hL hLi] at hi
      cases hi
  have hext : Ext M μ M' (backPlace μ H L μK) := ⟨hn.mem, fun b l e => by
    have hb : b < H.length := by
      rcases Nat.lt_or_ge b H.length with q | q
      · exact q
      · rw [hs.dom b q] at e; cases e
    simp only [backPlace, hb, if_true]
    obtain ⟨l1, f1, f2⟩ := hs.gen (k := H[b]) (b := b) (by simp [hb])
    rw [e] at f1
    cases f1
    split
    · rename_i i ei
      have hLi := idxOf_get ei
      obtain ⟨l', e', h'⟩ := hn.loc i { l with g := 0 } (List.getElem?_eq_some_iff.1 hLi).1 (by simp [placeOf, hLi, e, anew])
      rw [e', f2]
      refine ⟨_, rfl, ?_⟩
      rcases h' with rfl | h'
      · exact .inl rfl
      · refine .inr ?_
        simp only [Option.getD_some]
        have : (0 : Nat) < l'.g := h'
        omega
    · exact ⟨l, e, .inl rfl⟩⟩
  refine ⟨⟨hK.mem, fun b hb => ?_, fun b k hk => ?_, fun x y l l' B hx hy hne h1 h2 h3 h4 => ?_⟩, ⟨hext, ⟨hn.fr.os, hn.fr.tape, hn.fr.output, hn.fr.size, fun B hB ho => hn.fr.block B hB fun h => ho (owns_placeOf hr h)⟩, fun B hB => ?_, fun b o v h => ?_⟩⟩
  · rw [backHeap_len] at hb
    have hnb : ¬ b < H.length := by omega
    simp only [backPlace, hnb, if_false]
    exact hK.dom _ (by omega)
  · rcases Nat.lt_or_ge b H.length with q | q
    · rw [backHeap_get1 q] at hk
      cases hk
      unfold overB
      split
      · rename_i i ei
        have hLi := idxOf_get ei
        obtain ⟨b2, k', e1, e2, e3⟩ := still_le hst (List.getElem?_eq_some_iff.1 hLi).1
        rw [hLi] at e1
        cases e1
        obtain ⟨l, f1, f2⟩ := hK.gen e2
        obtain ⟨l0, f3, f4⟩ := hs.gen (k := H[b]) (b := b) (by simp [q])
        have hbo : backOf H L K i = some (b, l.g, l0.g + l.g) := by simp [backOf, f2, hLi, f4]
        rw [e2, hbo]
        refine (hK.blk i k' e2).ren f1 hρ ?_ fun hz => ?_
        · exact (hρ i b l.g (l0.g + l.g) l hbo f1).2
        · rw [f4] at e3
          cases k' with
          | row => trivial
          | rows => trivial
          | box => have e3 : some l0.g = some 0 := e3; simp at e3; show l0.g + l.g = 0; omega
          | map => have e3 : some l0.g = some 0 := e3; simp at e3; show l0.g + l.g = 0; omega
      · rename_i ei
        refine (hs.blk b H[b] (by simp [q])).keep hext (by simp [backPlace, q, ei]) fun l B h1 h2 => ?_
        have hno := apartK b l B q ei h1 h2
        have hBl := (hs.lt h1 h2).2
        refine ⟨hn.fr.block B hBl hno, fun o ho => ?_⟩
        cases hM : M' B o with
        | none => rfl
        | some v =>
          rcases hn.new B o v hM with g1 | g1 | g1
          · rw [ho] at g1; cases g1
          · exact absurd g1 hno
          · omega
    · rw [backHeap_get2 q] at hk
      simp only [Option.map_eq_some_iff] at hk
      obtain ⟨k', e1, rfl⟩ := hk
      obtain ⟨l, f1, f2⟩ := hK.gen e1
      have hnl : ¬ b < H.length := by omega
      have hbp : backPlace μ H L μK b = some { l with g := l.g } := by
        simp only [backPlace, hnl, if_false]
        rw [show b - H.length + L.length = L.length + (b - H.length) by omega, f1]
      have hgen : genOf K (L.length + (b - H.length)) = some l.g := f2
      unfold freshB
      cases k' with
      | row ty sz el g p =>
        simp [genOf, e1] at hgen
        subst hgen
        exact (hK.blk _ _ e1).ren f1 hρ hbp fun _ => trivial
      | rows ty el g p =>
        simp [genOf, e1] at hgen
        subst hgen
        exact (hK.blk _ _ e1).ren f1 hρ hbp fun _ => trivial
      | box ty cs =>
        simp [genOf, e1] at hgen
        refine (hK.blk _ _ e1).ren f1 hρ (g1 := 0) ?_ fun _ => rfl
        rw [hbp]
        cases l
        subst hgen
        rfl
      | map ty es =>
        simp [genOf, e1] at hgen
        refine (hK.blk _ _ e1).ren f1 hρ (g1 := 0) ?_ fun _ => rfl
        rw [hbp]
        cases l
        subst hgen
        rfl
  · rcases backPlace_src hL h1 with ⟨i, l0, a1, a2, a3⟩ | ⟨a1, a2, a3⟩ <;> rcases backPlace_src hL h2 with ⟨j, l1, b1, b2, b3⟩ | ⟨b1, b2, b3⟩
    · exact hK.apart i j l0 l1 B (hK.lt a2 (a3.trans h3)).1 (hK.lt b2 (b3.trans h4)).1 (fun e => hne (by rw [← a1, ← b1, e])) a2 b2 (a3.trans h3) (b3.trans h4)
    · rcases hn.own B ⟨i, l0, (hK.lt a2 (a3.trans h3)).1, a2, a3.trans h3⟩ with g | g
      · exact absurd g (apartK y l' B b1 b2 b3 h4)
      · have := (hs.lt b3 h4).2; omega
    · rcases hn.own B ⟨j, l1, (hK.lt b2 (b3.trans h4)).1, b2, b3.trans h4⟩ with g | g
      · exact absurd g (apartK x l B a1 a2 a3 h3)
      · have := (hs.lt a3 h3).2; omega
    · exact hs.apart x y l l' B a1 b1 hne a3 b3 h3 h4
  · obtain ⟨x, l, hx, h1, h2⟩ := hB
    rcases backPlace_src hL h1 with ⟨i, l0, a1, a2, a3⟩ | ⟨a1, a2, a3⟩
    · exact oldK B ⟨i, l0, (hK.lt a2 (a3.trans h2)).1, a2, a3.trans h2⟩
    · exact .inl ⟨x, l, a1, a3, h2⟩
  · rcases hn.new b o v h with g | g | g
    · exact .inl g
    · exact .inr (.inl (owns_placeOf hr g))
    · exact .inr (.inr g)
theorem callOn_sound {P : Program} {C : Oracle} (hC : CallOK P C) {raw : Bool} {f : Nat} {args : List AV} {H H' : Heap} {r : Res} (h : callOn C raw f args H = some (r, H')) {μ : Place} {M : Mem} {w : World} {vs : Array Value}
    (hs : Sim μ M w H) (hv : VRs M μ vs args) : Calls P f vs w fun e w' => ∃ μ' M', Sim μ' M' w' H' ∧ Nx μ M w H μ' M' w' H' ∧ ResOK M' μ' r e := by
  unfold callOn at h
  split at h
  · cases h
  · rename_i args1 H1 e1
    have : ∃ M1, VRs M1 μ vs args1 ∧ Fzs μ M w H M1 H1 := by
      cases raw with
      | true =>
        simp only [if_true, Option.some.injEq, Prod.mk.injEq] at e1
        obtain ⟨rfl, rfl⟩ := e1
        exact ⟨M, hv, .refl hs⟩
      | false => exact hands_sound args μ M w H H1 vs args1 hs hv (by simpa using e1)
    obtain ⟨M1, hv1, hf⟩ := this
    dsimp only at h
    split at h
    · cases h
    · rename_i r1 K e2
      split at h
      · rename_i hst
        simp only [Option.some.injEq, Prod.mk.injEq] at h
        obtain ⟨rfl, rfl⟩ := h
        have hr := reach_lt H1 (idsL args1)
        have hL := reach_nodup H1 (idsL args1)
        refine (hC f _ _ r1 K e2 (placeOf μ (reach H1 (idsL args1)) anew) M1 w vs (hf.sim.rebase _ _ hL hr fun _ => rfl) (hv1.renL (RenOK.renOf hf.sim _ _))).mono fun e w' ⟨μK, MK, k1, k2, k3⟩ => ?_
        rw [rebase_len hf.sim _ _ hr] at k2
        obtain ⟨q1, q2⟩ := callOn_back hf.sim k1 hL hr hst k2
        exact ⟨_, MK, q1, hf.nx.trans q2, k3.ren (backPlace_ren hf.sim k1 hL hr)⟩
      · cases h
end Go.Vm
