/- A virtual executor of the model's programs, part 3 of 4. Conditions: as each section says. -/
import Derived.Test.YtjdaalpcehnlbaaGreatDoorVxPart1
import Derived.Laws.Strings
import Derived.Orders

section
/- A virtual executor of the model's programs: append, whole. Conditions: none beyond the program's tables. -/
set_option linter.unusedVariables false
namespace Vx
open Go Go.RowKit

section
variable {P : Program} {T : Nat → Option Value} {w0 : World}

/-- What is known of an append's arguments in the model. -/
structure AppArgs (P : Program) (ts : Array TypeId) (t e : TypeId) (i : TypeInfo) (z : Value) (zeros : Bool) (a : Array Value) (base : Option Addr) (len cap n : Nat) (x' : Value) : Prop where
  h1 : ts[0]? = some t
  h2 : a[0]? = some (.slice base len cap)
  h3 : a[1]? = some x'
  ht : P.underlying t = some (.slice e)
  hi : P.info? e = some i
  hz : i.zero = some z
  hu : ts[1]? = none ∧ zeros = false ∨ ∃ u d, ts[1]? = some u ∧ P.underlying u = some d ∧ zeros = isIntDesc d
  hn : zeros = true → ∃ k q, x' = .int k q ∧ 0 ≤ q ∧ q ≤ 2 ^ 20 ∧ n = q.toNat
  hb : n * i.bytes ≤ 2 ^ 30

theorem run_append_in {ts : Array TypeId} {ty t e : TypeId} {i : TypeInfo} {z : Value} {zeros : Bool} {a : Array Value} {base : Option Addr} {len cap n : Nat} {x' : Value} {c' : Array Value} {w w' : World}
    (h : AppArgs P ts t e i z zeros a base len cap n x') (hle : len + n ≤ cap) (hc : zeros = true → c' = Builtin.zeroCells z.cells n) (hzs : z.cells.size = i.size)
    (hl : zeros = false → (Builtin.lenOf x').run P w = .ok n w ∧ (Builtin.firstCells i.size n x').run P w = .ok c' w)
    (hst : base = none ∧ w' = w ∨ ∃ b, base = some b ∧ (storeCells (b.add (len * i.size)) c'.toList).run P w = .ok () w') :
    (Builtin.append_ ts ty a).run P w = .ok (.slice base (len + n) cap) w' := by
  obtain ⟨h1, h2, h3, ht, hi, hz, hu, hn, hb⟩ := h
  cases zeros with
  | false =>
    obtain ⟨l1, l2⟩ := hl rfl
    rcases hu with ⟨hu, _⟩ | ⟨u, d, hu, hd, hz0⟩
    · simp only [Builtin.append_, h1, h2, h3, hu, Sem.run_bind, run_underlying ht, Result.andThen_ok, run_sizeOf' hi, Sem.run_pure, Bool.false_eq_true, if_false, l1, hle, if_true, Bool.not_false, l2]
      rcases hst with ⟨rfl, rfl⟩ | ⟨b, rfl, hb⟩
      · rfl
      · simp only [Sem.run_bind, hb, Result.andThen_ok]; rfl
    · cases d <;> first | (simp [isIntDesc] at hz0; done) | skip
      all_goals
        simp only [Builtin.append_, h1, h2, h3, hu, Sem.run_bind, run_underlying ht, run_underlying hd, Result.andThen_ok, run_sizeOf' hi, Sem.run_pure, Bool.false_eq_true, if_false, l1, hle, if_true, Bool.not_false, l2]
        rcases hst with ⟨rfl, rfl⟩ | ⟨b, rfl, hb⟩
        · rfl
        · simp only [Sem.run_bind, hb, Result.andThen_ok]; rfl
  | true =>
    have hc := hc rfl
    obtain ⟨k, q, rfl, q0, q1, rfl⟩ := hn rfl
    rcases hu with ⟨_, hz0⟩ | ⟨u, d, hu, hd, hz0⟩
    · cases hz0
    · cases d <;> first | (simp [isIntDesc] at hz0; done) | skip
      have wq : IntKind.i64.wrap q = q := by rw [IntKind.wrap_i64]; omega
      have n1 : ¬ q < 0 := by omega
      have n2 : ¬ (q * (i.bytes : Int) > 2 ^ 48) := by
        have : ((q.toNat * i.bytes : Nat) : Int) = q * i.bytes := by rw [Int.natCast_mul, Int.toNat_of_nonneg q0]
        omega
      have hap : (if q.toNat * i.size = 0 then Pure.pure #[] else do Pure.pure (Builtin.zeroCells (← Go.zeroValue e).cells q.toNat) : Sem (Array Value)).run P w = .ok c' w := by
        split
        · rename_i h0
          rw [hc]
          have : Builtin.zeroCells z.cells q.toNat = #[] := by unfold Builtin.zeroCells; rw [hzs, h0]; simp
          rw [this]; rfl
        · simp only [Sem.run_bind, run_zeroValue' hi hz, Result.andThen_ok, Sem.run_pure, hc]
      simp only [Builtin.append_, h1, h2, h3, hu, Sem.run_bind, run_underlying ht, run_underlying hd, Result.andThen_ok, run_sizeOf' hi, Sem.run_pure, if_true, asInt, asIntOf, wq, if_neg n1, run_typeInfo' hi, if_neg n2, hle,
        Bool.not_true, Bool.false_eq_true, if_false, hap]
      rcases hst with ⟨rfl, rfl⟩ | ⟨b, rfl, hb⟩
      · rfl
      · simp only [Sem.run_bind, hb, Result.andThen_ok]; rfl

/-- The capacity that a grown slice has in the model. -/
def newCap (w : World) (need cap : Nat) (e : TypeId) : Nat := (Question.appendCap need cap e).cut (w.tape w.drawn (.appendCap need cap e))
theorem newCap_ge (w : World) (need cap : Nat) (e : TypeId) : need ≤ newCap w need cap e := by simp only [newCap, Question.cut]; omega

theorem run_append_out {ts : Array TypeId} {ty t e : TypeId} {i : TypeInfo} {z : Value} {zeros : Bool} {a : Array Value} {base : Option Addr} {len cap n : Nat} {x' : Value} {c' old : Array Value} {w : World}
    (h : AppArgs P ts t e i z zeros a base len cap n x') (hle : ¬ len + n ≤ cap) (hc : zeros = true → c' = Builtin.zeroCells z.cells n) (hzs : z.cells.size = i.size) (hsz : 0 < i.size)
    (hb2 : (len + n) * i.bytes ≤ 2 ^ 30) (hb3 : len + n ≤ 2 ^ 30)
    (hl : zeros = false → (Builtin.lenOf x').run P w = .ok n w ∧ (Builtin.firstCells i.size n x').run P w.drew = .ok c' w.drew)
    (ho : (Builtin.firstCells i.size len (.slice base len cap)).run P w.drew = .ok old w.drew) :
    (Builtin.append_ ts ty a).run P w = .ok (.slice (some ⟨w.heap.size, 0, none⟩) (len + n) (newCap w (len + n) cap e))
      { w.drew with heap := w.heap.push (.cells (old ++ c' ++ Builtin.zeroCells z.cells (newCap w (len + n) cap e - (len + n))) e) } := by
  obtain ⟨h1, h2, h3, ht, hi, hz, hu, hn, hb⟩ := h
  have g1 : ¬ (((len + n : Nat) : Int) > IntKind.i64.max) := by rw [IntKind.max_i64]; omega
  have g2 : ¬ (Builtin.nextslicecap (len + n) cap * i.bytes > 2 ^ 48) := by
    have := nextslicecap_le (need := len + n) (old := cap) (by omega)
    have := Nat.mul_le_mul_right i.bytes this
    rw [Nat.mul_assoc] at this
    omega
  have hch : (choose (.appendCap (len + n) cap e)).run P w = .ok (newCap w (len + n) cap e) w.drew := by
    rw [run_choose]; rfl
  cases zeros with
  | false =>
    obtain ⟨l1, l2⟩ := hl rfl
    rcases hu with ⟨hu, _⟩ | ⟨u, d, hu, hd, hz0⟩
    · simp only [Builtin.append_, h1, h2, h3, hu, Sem.run_bind, run_underlying ht, Result.andThen_ok, run_sizeOf' hi, Sem.run_pure, Bool.false_eq_true, if_false, l1, hle, Bool.not_false, if_true, g1, false_and, run_typeInfo' hi, g2,
        hch, run_askRoom, ho, l2, run_zeroValue' hi hz]
      rfl
    · cases d <;> first | (simp [isIntDesc] at hz0; done) | skip
      all_goals
        simp only [Builtin.append_, h1, h2, h3, hu, Sem.run_bind, run_underlying ht, run_underlying hd, Result.andThen_ok, run_sizeOf' hi, Sem.run_pure, Bool.false_eq_true, if_false, l1, hle, Bool.not_false, if_true, g1, false_and,
          run_typeInfo' hi, g2, hch, run_askRoom, ho, l2, run_zeroValue' hi hz]
        rfl
  | true =>
    have hc := hc rfl
    obtain ⟨k, q, rfl, q0, q1, rfl⟩ := hn rfl
    rcases hu with ⟨_, hz0⟩ | ⟨u, d, hu, hd, hz0⟩
    · cases hz0
    · cases d <;> first | (simp [isIntDesc] at hz0; done) | skip
      have wq : IntKind.i64.wrap q = q := by rw [IntKind.wrap_i64]; omega
      have n1 : ¬ q < 0 := by omega
      have n2 : ¬ (q * (i.bytes : Int) > 2 ^ 48) := by
        have : ((q.toNat * i.bytes : Nat) : Int) = q * i.bytes := by rw [Int.natCast_mul, Int.toNat_of_nonneg q0]
        omega
      have hap : (if q.toNat * i.size = 0 then Pure.pure #[] else do Pure.pure (Builtin.zeroCells (← Go.zeroValue e).cells q.toNat) : Sem (Array Value)).run P w.drew = .ok c' w.drew := by
        split
        · rename_i h0
          rw [hc]
          have : Builtin.zeroCells z.cells q.toNat = #[] := by unfold Builtin.zeroCells; rw [hzs, h0]; simp
          rw [this]; rfl
        · simp only [Sem.run_bind, run_zeroValue' hi hz, Result.andThen_ok, Sem.run_pure, hc]
      simp only [Builtin.append_, h1, h2, h3, hu, Sem.run_bind, run_underlying ht, run_underlying hd, Result.andThen_ok, run_sizeOf' hi, Sem.run_pure, if_true, asInt, asIntOf, wq, if_neg n1, run_typeInfo' hi, if_neg n2, hle,
        Bool.not_true, Bool.false_eq_true, if_false, g1, false_and, g2, hch, run_askRoom, ho, hap, run_zeroValue' hi hz]
      rfl

theorem vzeros_some {o : Option TypeId} {z : Bool} {s s' : VS} (h : vzeros P o s = some (z, s')) : s = s' ∧ (o = none ∧ z = false ∨ ∃ u d, o = some u ∧ P.underlying u = some d ∧ z = isIntDesc d) := by
  cases o with
  | none => obtain ⟨rfl, rfl⟩ := ret_some h; exact ⟨rfl, .inl ⟨rfl, rfl⟩⟩
  | some u =>
    obtain ⟨d, s1, h1, h2⟩ := bind_some h
    obtain ⟨rfl, hd⟩ := tunder_some h1
    obtain ⟨rfl, rfl⟩ := ret_some h2
    exact ⟨rfl, .inr ⟨u, d, rfl, hd, rfl⟩⟩

theorem vgrow_some {a : Addr} {len size n : Nat} {elem : TypeId} {new : List Value} {v : Value} {s s' : VS} (h : vgrow a len size n elem new s = some (v, s')) :
    ∃ cs e f st r, s.g a.block = some (.row cs e f st) ∧ a.spot = none ∧ f ≠ 0 ∧ a.off + len * size ≤ cs.length ∧ v = .slice (some ⟨r, 0, none⟩) (len + n) size ∧
      ∃ s1 s2 l u, kill f (fun _ _ en => decide (st + a.off + len * size < en)) s1 = some (u, s2) ∧ s1.g = s.g ∧ s2.g r = none ∧ (s2.g f = some (.fam l)) ∧
        s'.g = upd (upd s2.g r (.row ((cs.drop a.off).take (len * size) ++ new) e f (st + a.off))) f (.fam ((r, st + a.off, st + a.off + (len + n) * size) :: l)) := by
  obtain ⟨ob, s1, h1, h2⟩ := bind_some h
  obtain ⟨g1, g2⟩ := rd_some h1
  cases ob <;> try exact (fail_some h2).elim
  rename_i cs e f st
  simp only at h2
  split at h2
  · exact (fail_some h2).elim
  · rename_i hc
    have hc : a.spot.isSome = false ∧ f ≠ 0 ∧ a.off + len * size ≤ cs.length := by
      refine ⟨?_, ?_, ?_⟩
      · cases hsp : a.spot.isSome with
        | false => rfl
        | true => exact (hc (.inl hsp)).elim
      · intro h0; exact hc (.inr (.inl h0))
      · rcases Nat.lt_or_ge cs.length (a.off + len * size) with h | h
        · exact (hc (.inr (.inr (.inr h)))).elim
        · exact h
    obtain ⟨u, s2, h3, h4⟩ := bind_some h2
    obtain ⟨r, s3, h5, h6⟩ := bind_some h4
    obtain ⟨k1, k2⟩ := nw_some h5
    obtain ⟨ob2, s4, h7, h8⟩ := bind_some h6
    obtain ⟨k3, k4⟩ := rd_some h7
    cases ob2 <;> try exact (fail_some h8).elim
    rename_i l
    obtain ⟨u2, s5, h9, h10⟩ := bind_some h8
    obtain ⟨rfl, rfl⟩ := ret_some h10
    have k5 := (wr_some h9).2
    have hrf : f ≠ r := by
      intro e0; subst e0
      rw [k2, upd_same] at k3
      cases k3
    rw [k2, upd_other _ _ hrf] at k3
    exact ⟨cs, e, f, st, r, g1, by cases hsp : a.spot <;> simp_all, hc.2.1, hc.2.2, rfl, s1, s2, l, u, h3, g2, k1, k3, by rw [k5, k4, k2]⟩


theorem rdCells_ok {s : VS} {r off n : Nat} {cs : List Value} {e : TypeId} {f st : Nat} (h : s.g r = some (.row cs e f st)) (hl : off + n ≤ cs.length) :
    ∃ s', rdCells ⟨r, off, none⟩ n s = some ((cs.drop off).take n, s') := by
  unfold rdCells
  split
  · rename_i h0; subst h0; exact ⟨s, by simp [VM.ret]⟩
  · have h' : s.heap.get r = some (.row cs e f st) := h
    refine ⟨touch s (2 * r), ?_⟩
    simp only [VM.bind, rd, h', Option.isSome_none, Bool.false_or]
    rw [if_neg (by simp; omega)]
    rfl

theorem append_get (a b : Array Value) (i : Nat) (v : Value) (h : a[i]? = some v) : (a ++ b)[i]? = some v := by
  obtain ⟨hi, rfl⟩ := Array.getElem?_eq_some_iff.1 h
  rw [Array.getElem?_append, if_pos hi, h]

/-- What 'vgrow' leaves of the other names. -/
theorem grow_others {m : Ren} {w : World} {s s1 s2 : VS} {f p : Nat} {l : List (Nat × Nat × Nat)} {u : Unit} {r E : Nat} {row : VO} (hw : HR T w0 m s.g w) (hs : s1.g = s.g) (hf : f ≠ 0)
    (hk : kill f (fun _ _ en => decide (p < en)) s1 = some (u, s2)) (hr : s2.g r = none) (hfl : s2.g f = some (.fam l)) {cs : List Value} {e : TypeId} {st : Nat} (hrow : row = .row cs e f st) (hE : E = st + cs.length) {g' : Hp}
    (hg : g' = upd (upd s2.g r row) f (.fam ((r, st, E) :: l))) :
    s.g r = none ∧ g' r = some row ∧ (∀ r' cs' e' st', g' r' = some (.row cs' e' f st') → r' ≠ r → st' + cs'.length ≤ p) ∧
    (∀ q, q ≠ r → (∀ cs e f st, g' q = some (.row cs e f st) → s.g q = some (.row cs e f st)) ∧ (∀ o, g' q = some (.obj o) → s.g q = some (.obj o)) ∧ (s.g q ≠ none → g' q ≠ none)) ∧
    (∀ r cs e f st, g' r = some (.row cs e f st) → f ≠ 0 → ∃ l, g' f = some (.fam l) ∧ (r, st, st + cs.length) ∈ l) := by
  obtain ⟨k1, k2, k3, k4, k5, k6, k7⟩ := kill_keeps hk (by rw [hs]; exact hw)
  rw [hs] at k2 k5 k7
  have hrf : r ≠ f := by intro e; subst e; rw [hr] at hfl; cases hfl
  have hgq : ∀ q, q ≠ r → q ≠ f → g' q = s2.g q := by intro q h1 h2; rw [hg, upd_other _ _ h2, upd_other _ _ h1]
  have hgr : g' r = some row := by rw [hg, upd_other _ _ hrf, upd_same]
  have hgf : g' f = some (.fam ((r, st, E) :: l)) := by rw [hg, upd_same]
  refine ⟨(k5 r).2 hr, hgr, fun r' cs' e' st' h1 h2 => ?_, fun q hq => ?_, fun q cs' e' f' st' h1 hf' => ?_⟩
  · have hrf' : r' ≠ f := by intro e; subst e; rw [hgf] at h1; cases h1
    rw [hgq r' h2 hrf'] at h1
    have := k4 _ _ _ _ hf h1
    simpa using this
  · by_cases hqf : q = f
    · subst hqf
      rw [hgf]
      exact ⟨(fun _ _ _ _ h => by cases h), (fun _ h => by cases h), fun _ h => by cases h⟩
    · rw [hgq q hq hqf]
      exact ⟨fun _ _ _ _ h => k2 _ _ _ _ _ h, fun _ h => k7 _ _ h, fun h1 h2 => h1 ((k5 q).2 h2)⟩
  · by_cases hqr : q = r
    · subst hqr
      rw [hgr, hrow] at h1
      cases h1
      exact ⟨_, hgf, by rw [hE]; simp⟩
    · have hqf : q ≠ f := by intro e; subst e; rw [hgf] at h1; cases h1
      rw [hgq q hqr hqf] at h1
      obtain ⟨l', hl', hmem⟩ := k1.fams _ _ _ _ _ h1 hf'
      by_cases hff : f' = f
      · subst hff
        rw [hfl] at hl'
        cases hl'
        exact ⟨_, hgf, List.mem_cons_of_mem _ hmem⟩
      · exact ⟨l', by rw [hgq f' (by intro e; subst e; rw [hr] at hl'; cases hl') hff]; exact hl', hmem⟩

/-- An append. -/
theorem Sim.append (hz : ZeroOk P) {m : Ren} {ts : Array TypeId} {ty : TypeId} {a : Array Value} {v v' x x' : Value} (hv : VRel T m v v') (hxx : VRel T m x x') (ha0 : a[0]? = some v') (ha1 : a[1]? = some x') :
    Sim P T w0 (VRel T) m (vappend P ts v x) (Builtin.append_ ts ty a) := by
  intro s y s' w hx hw
  obtain ⟨t, s1, h1, h2⟩ := bind_some hx
  obtain ⟨ht0, rfl⟩ := lift_some h1
  cases v <;> try exact (fail_some h2).elim
  rename_i base len z
  obtain ⟨e, s2, h3, h4⟩ := bind_some h2
  obtain ⟨rfl, ht⟩ := tsliceElem_some h3
  obtain ⟨size, s3, h5, h6⟩ := bind_some h4
  obtain ⟨rfl, i, hi, rfl⟩ := tsize_some h5
  obtain ⟨bytes, s4, h7, h8⟩ := bind_some h6
  obtain ⟨rfl, i', hi', rfl⟩ := tbytes_some h7
  rw [hi] at hi'
  cases hi'
  obtain ⟨zv, s5, h8, h9⟩ := bind_some h8
  obtain ⟨rfl, j, hj, hzv, htt⟩ := tzero_some h8
  rw [hi] at hj
  cases hj
  have hzs := (hz _ _ _ htt hi hzv).2
  obtain ⟨zeros, s5, h9, h10⟩ := bind_some h9
  obtain ⟨rfl, hu⟩ := vzeros_some h9
  obtain ⟨⟨n, new⟩, s6, h11, h12⟩ := bind_some h10
  simp only at h12
  obtain ⟨hg6, c', hnew, hmodel⟩ := vappended_some hz hi hxx h11 hw
  have hwd : HR T w0 m s.g w.drew := hw.still rfl rfl rfl rfl
  -- the same cells behind a draw
  have hmodelD : zeros = false → ∃ c2, LRel T m new c2.toList ∧ (Builtin.lenOf x').run P w = .ok n w ∧ (Builtin.firstCells i.size n x').run P w.drew = .ok c2 w.drew := by
    intro hzz
    obtain ⟨_, c2, hnew2, hm2⟩ := vappended_some hz hi hxx h11 hwd
    rw [hzz] at hm2 hmodel
    simp only [Bool.false_eq_true, if_false] at hm2 hmodel
    exact ⟨c2, hnew2, hmodel.1, hm2.2⟩
  have hzc : zeros = true → (∃ k q, x' = .int k q ∧ 0 ≤ q ∧ q ≤ 2 ^ 20 ∧ n = q.toNat) ∧ c' = Builtin.zeroCells zv.cells n := by
    intro hzz
    rw [if_pos hzz] at hmodel
    obtain ⟨k, q, a1, a2, a3, a4, z2, a5, a6⟩ := hmodel
    rw [hzv] at a5
    cases a5
    exact ⟨⟨k, q, a1, a2, a3, a4⟩, a6⟩
  have hzl : zeros = false → (Builtin.lenOf x').run P w = .ok n w ∧ (Builtin.firstCells i.size n x').run P w = .ok c' w := by
    intro hzz
    rw [hzz] at hmodel
    simpa using hmodel
  -- the slice in the model
  have hslice : ∃ base' cap, v' = .slice base' len cap ∧ len ≤ cap := by
    cases hv
    · exact ⟨_, _, rfl, Nat.le_refl _⟩
    · rename_i hxx
      exact ⟨_, _, rfl, by rcases hxx with ⟨a, b⟩ | ⟨_, a, _⟩ <;> omega⟩
  obtain ⟨base', cap, rfl, hlc⟩ := hslice
  have hargs : n * i.bytes ≤ 2 ^ 30 → AppArgs P ts t e i zv zeros a base' len cap n x' := fun hb => ⟨ht0, ha0, ha1, ht, hi, hzv, hu, fun hzz => (hzc hzz).1, hb⟩
  split at h12
  · -- nothing is appended
    rename_i hn0
    subst hn0
    split at h12
    · rename_i hne
      obtain ⟨rfl, rfl⟩ := ret_some h12
      have hnil : new = [] := by simpa using hne
      subst hnil
      have hc0 : c'.toList = [] := List.eq_nil_of_length_eq_zero hnew.1.symm
      refine ⟨m, .slice base' len cap, w, Ren.le_refl m, ?_, hv, by rw [hg6]; exact hw⟩
      refine run_append_in (hargs (by omega)) hlc (fun h => (hzc h).2) hzs hzl ?_
      cases base' with
      | none => exact .inl ⟨rfl, rfl⟩
      | some b => exact .inr ⟨b, rfl, by rw [hc0]; rfl⟩
    · exact (fail_some h12).elim
  · rename_i hn0
    split at h12
    · rename_i hcond
      obtain ⟨hnl, hsz, hb2, hb3, hplain⟩ := hcond
      have hb1 : n * i.bytes ≤ 2 ^ 30 := Nat.le_trans (Nat.mul_le_mul_right _ (Nat.le_add_left n len)) hb2
      have hpl : ∀ v ∈ c'.toList, plainV v = true := hnew.plain (List.all_eq_true.1 hplain)
      -- a block of its own
      have out : ¬ len + n ≤ cap → ∀ (oldv : List Value) (olda : Array Value), oldv.length = len * i.size → LRel T m oldv olda.toList →
          (Builtin.firstCells i.size len (.slice base' len cap)).run P w.drew = .ok olda w.drew →
          ∃ (c : Array Value), c.size = newCap w (len + n) cap e * i.size ∧ (∀ (k : Nat) v, (oldv ++ new)[k]? = some v → ∃ v', c[k]? = some v' ∧ VRel T m v v') ∧
            (Builtin.append_ ts ty a).run P w = .ok (.slice (some ⟨w.heap.size, 0, none⟩) (len + n) (newCap w (len + n) cap e)) { w.drew with heap := w.heap.push (.cells c e) } := by
        intro hle oldv olda holdl hold horun
        have hge := newCap_ge w (len + n) cap e
        have hc2 : ∃ c2, LRel T m new c2.toList ∧ (zeros = true → c2 = Builtin.zeroCells zv.cells n) ∧ (zeros = false → (Builtin.lenOf x').run P w = .ok n w ∧ (Builtin.firstCells i.size n x').run P w.drew = .ok c2 w.drew) := by
          cases hzz : zeros with
          | true => exact ⟨c', hnew, fun _ => (hzc hzz).2, fun h => by cases h⟩
          | false =>
            obtain ⟨c2, q1, q2⟩ := hmodelD hzz
            exact ⟨c2, q1, (fun h => by cases h), fun _ => q2⟩
        obtain ⟨c2, q1, q2, q3⟩ := hc2
        have hrun := run_append_out (ty := ty) (hargs hb1) hle q2 hzs hsz hb2 hb3 q3 horun
        refine ⟨_, ?_, fun k v hk => ?_, hrun⟩
        · have e1 : olda.size = len * i.size := by have := hold.1; simp only [Array.length_toList] at this; omega
          have e2 : c2.size = n * i.size := by have := q1.1; simp only [Array.length_toList] at this; omega
          have e3 : (Builtin.zeroCells zv.cells (newCap w (len + n) cap e - (len + n))).size = (newCap w (len + n) cap e - (len + n)) * i.size := by simp [Builtin.zeroCells, hzs]
          rw [Array.size_append, Array.size_append, e1, e2, e3, ← Nat.add_mul, ← Nat.add_mul]
          congr 1
          omega
        · obtain ⟨v', r1, r2⟩ := (hold.append q1).get? hk
          refine ⟨v', append_get _ _ _ _ ?_, r2⟩
          rw [← Array.getElem?_toList, Array.toList_append]
          exact r1
      cases base with
      | none =>
        dsimp only at h12
        split at h12
        · rename_i hl0
          subst hl0
          obtain ⟨r, s7, h13, h14⟩ := bind_some h12
          obtain ⟨rfl, rfl⟩ := ret_some h14
          cases hv
          obtain ⟨c, q1, q2, q3⟩ := out (by omega) [] #[] (by simp) (LRel.nil m) (by simp [Builtin.firstCells])
          have hge := newCap_ge w (0 + n) 0 e
          have hle : n * i.size ≤ newCap w (0 + n) 0 e * i.size := Nat.mul_le_mul_right _ (by omega)
          obtain ⟨m', l1, l2, l3⟩ := newSliceRow_some (w' := { w.drew with heap := w.heap.push (.cells c e) }) h13 (by rw [hg6]; exact hw) rfl rfl rfl rfl (by omega) (fun k v hk => q2 k v (by simpa using hk)) (fun j _ => by omega)
          refine ⟨m', _, _, l1, q3, ?_, l3⟩
          rw [Nat.zero_add] at hge ⊢
          rw [Nat.zero_add] at q1
          exact slice_new l2 (by omega) (by omega) rfl
        · exact (fail_some h12).elim
      | some ad =>
        dsimp only at h12
        split at h12
        · rename_i hzz
          subst hzz
          obtain ⟨cs, el, f, st, k, g1, g2, hf, g4, rfl, s7, s8, fl, u, g5, g6, g7, g8, g9⟩ := vgrow_some h12
          obtain ⟨rb, off, sp⟩ := ad
          simp only at g1 g2 g4 g5 g9
          subst g2
          cases hv
          rename_i b o lim xx hr hsl
          have hrow := hw.rows _ _ _ _ _ (by rw [← hg6]; exact g1)
          obtain ⟨b1, o1, l1, c, E, lo, hi0, r1, r2, r3, r4, r5, r6, r7, r8⟩ := hrow
          rw [hr] at r1
          cases r1
          have hl1 : ((cs.drop off).take (len * i.size)).length = len * i.size := by simp; omega
          obtain ⟨q1, q2, q3, q4, q5⟩ := grow_others (w := w) (m := m) (r := k) (row := .row ((cs.drop off).take (len * i.size) ++ new) el f (st + off)) (E := st + off + (len + n) * i.size) (g' := s'.g) (s := s) hw (by rw [g6, hg6]) hf g5 g7 g8 rfl
            (by rw [List.length_append, hl1, hnl, Nat.add_mul]) g9
          have hmk : m k = none := by
            cases hm : m k with
            | none => rfl
            | some x => exact absurd q1 (hw.dom _ _ hm)
          have g1' : s.g rb = some (.row cs el f st) := by rw [← hg6]; exact g1
          by_cases hroom : len + n ≤ cap
          · -- in place
            have hsl2 : xx = o + off ∧ xx + cap * i.size ≤ lim := by
              rcases hsl with ⟨a1, a2⟩ | ⟨a1, _, a3⟩
              · omega
              · exact ⟨a1, a3⟩
            obtain ⟨hxo, hcl⟩ := hsl2
            have hmul : (len + n) * i.size ≤ cap * i.size := Nat.mul_le_mul_right _ hroom
            have hsum : (len + n) * i.size = len * i.size + n * i.size := Nat.add_mul _ _ _
            have hcl2 : c'.toList.length = n * i.size := by rw [← hnew.1]; exact hnl
            obtain ⟨w', c2, p1, p2, p3, p4, p5, p6, p7, p8, p9⟩ := storeCells_wrote (P := P) c'.toList w b (xx + len * i.size) 0 c E lo hi0 r2 (by omega) (fun j a1 a2 => r7 j (by omega) (by omega)) hpl
            have hrun := run_append_in (ty := ty) (w' := w') (c' := c') (hargs hb1) hroom (fun h => (hzc h).2) hzs hzl (.inr ⟨⟨b, xx, none⟩, rfl, by rw [add_lit]; exact p1⟩)
            refine ⟨m.put k (b, o + off, lim), _, w', Ren.le_put _ hmk, hrun, ?_, ?_⟩
            · exact .slice (put_same _ _ _) (.inr ⟨by omega, hroom, hcl⟩)
            · refine hw.grew (n := len * i.size) g1' hr q1 hf g4 (by omega) ⟨p2, p3, p4, p5, p6, c, c2, E, (lo, hi0), r2, p7, p8, fun j hj => by rw [p9 j, if_neg (by omega)]⟩
                ⟨c2, E, (lo, hi0), p7, fun k2 v hk2 => ?_⟩ (fun r' cs' e' st' hg1 h2 => ?_) q2 q4 q5
              · obtain ⟨hk3, _⟩ := List.getElem?_eq_some_iff.1 hk2
                obtain ⟨v', d1, d2⟩ := hnew.get? hk2
                refine ⟨v', ?_, d2⟩
                rw [p9, if_pos (by omega), ← d1]
                congr 1
                omega
              · by_cases hrk : r' = k
                · subst hrk
                  rw [q1] at hg1
                  cases hg1
                · exact q3 _ _ _ _ h2 hrk
          · -- in a new block
            obtain ⟨s9, hrd⟩ := rdCells_ok (s := s) (off := off) (n := len * i.size) g1' (by omega)
            obtain ⟨_, _, olda, d1, d2⟩ := rdCells_some (P := P) (a' := ⟨b, xx, none⟩) hrd hwd (fun h0 => by
              rcases hsl with ⟨a1, _⟩ | ⟨rfl, _, _⟩
              · rw [a1] at h0; simp at h0
              · exact .mk hr)
            obtain ⟨cc, e1, e2, e3⟩ := out hroom _ olda hl1 d2 (by simpa [Builtin.firstCells] using d1)
            have hge := newCap_ge w (len + n) cap e
            have hmul : (len + n) * i.size ≤ newCap w (len + n) cap e * i.size := Nat.mul_le_mul_right _ hge
            have hsum : (len + n) * i.size = len * i.size + n * i.size := Nat.add_mul _ _ _
            refine ⟨m.put k (w.heap.size, 0, cc.size), _, _, Ren.le_put _ hmk, e3, slice_new (put_same _ _ _) hge (by omega) rfl, ?_⟩
            refine hw.newCells (lo := 0) (hi := 0) q1 rfl rfl rfl rfl (by rw [List.length_append, hl1, hnl]; omega) e2 (fun j _ => by omega) (fun h0 => absurd h0 hf) q2 q4 q5
        · exact (fail_some h12).elim
    · exact (fail_some h12).elim

end
end Vx
end

section
/- A virtual executor of the model's programs: conversions, binary operators. Conditions: none beyond the program's tables. -/
set_option linter.unusedVariables false
set_option linter.unusedSimpArgs false
namespace Vx
open Go Go.RowKit

section
variable {P : Program} {T : Nat → Option Value} {w0 : World}

theorem push_modify {α : Type} (a : Array α) (x : α) (f : α → α) : (a.push x).modify a.size f = a.push (f x) := by
  refine Array.ext_getElem? fun k => ?_
  rw [Array.getElem?_modify, Array.getElem?_push, Array.getElem?_push]
  by_cases h : a.size = k
  · subst h; simp
  · rw [if_neg h]
    split
    · omega
    · rfl

theorem run_stringToBytes (w : World) (e : TypeId) (s : ByteArray) : ∃ w' c n cap, (Conv.stringToBytes e s).run P w = .ok (.slice (some ⟨w.heap.size, 0, none⟩) s.size cap) w' ∧
    w'.heap = w.heap.push (.cells c e (n, n + 1)) ∧ n = c.size ∧ w'.os = w.os ∧ w'.tape = w.tape ∧ w'.output = w.output ∧ s.size ≤ cap ∧ cap = c.size ∧
    (∀ (i : Nat) v, (byteVals s.data.toList)[i]? = some v → c[i]? = some v) := by
  let cap := newCap w s.size 0 e
  have hge : s.size ≤ cap := newCap_ge w s.size 0 e
  let c : Array Value := (s.data.map fun b => Value.int .u8 b.toNat) ++ Array.replicate (cap - s.size) (.int .u8 0)
  have hsz : c.size = cap := by
    have : s.data.size = s.size := rfl
    simp only [c, Array.size_append, Array.size_map, Array.size_replicate, this]
    omega
  have hch : (choose (.appendCap s.size 0 e)).run P w = .ok cap w.drew := by rw [run_choose]; rfl
  refine ⟨{ w.drew with heap := w.heap.push (.cells c e (c.size, c.size + 1)) }, c, c.size, cap, ?_, rfl, rfl, rfl, rfl, rfl, hge, hsz.symm, fun i v hv => ?_⟩
  · have hm : (markStringish ⟨w.heap.size, 0, none⟩).run P { w.drew with heap := w.heap.push (.cells c e) } = .ok () { w.drew with heap := w.heap.push (.cells c e (c.size, c.size + 1)) } := by
      simp only [markStringish, Sem.run_bind, run_shape, Result.andThen_ok, World.shape?]
      simp only [Array.getElem?_push_size]
      simp only [run_freeze, World.freeze]
      simp only [Nat.succ_ne_zero, if_false, push_modify]
      simp
    simp only [Conv.stringToBytes, Sem.run_bind, hch, Result.andThen_ok]
    simp only [Go.newRow, Sem.run_bind, run_newObj, Result.andThen_ok, Sem.run_pure]
    have := hm
    simp only [c] at this
    rw [show w.drew.heap.size = w.heap.size from rfl]
    rw [show w.drew.heap = w.heap from rfl]
    rw [this]
    rfl
  · have : (s.data.map fun b => Value.int .u8 b.toNat)[i]? = some v := by
      rw [← Array.getElem?_toList]
      simpa [byteVals] using hv
    exact append_get _ _ _ _ this

theorem byteVals_plain (l : List UInt8) (m : Ren) (i : Nat) (v : Value) (h : (byteVals l)[i]? = some v) : VRel T m v v := by
  obtain ⟨hi, rfl⟩ := List.getElem?_eq_some_iff.1 h
  simp only [byteVals, List.getElem_map]
  exact .int _ _

theorem bytesOfVals_some : ∀ {l : List Value} {bs : List UInt8}, bytesOfVals l = some bs → ∃ ns : List Int, l = ns.map (Value.int .u8) ∧ bs = ns.map fun n => UInt8.ofNat n.toNat := by
  intro l
  induction l with
  | nil => intro bs h; simp only [bytesOfVals, Option.some.injEq] at h; subst h; exact ⟨[], rfl, rfl⟩
  | cons v l ih =>
    intro bs h
    unfold bytesOfVals at h
    cases hb : byteOfVal v with
    | none => simp [hb] at h
    | some b =>
      cases hl : bytesOfVals l with
      | none => simp [hb, hl] at h
      | some bs' =>
        simp only [hb, hl, Option.some.injEq] at h
        subst h
        obtain ⟨ns, rfl, rfl⟩ := ih hl
        cases v <;> simp [byteOfVal] at hb
        rename_i k n
        cases k <;> simp [byteOfVal] at hb
        subst hb
        exact ⟨n :: ns, rfl, rfl⟩

theorem LRel.bytes {m : Ren} {ns : List Int} {l' : List Value} (h : LRel T m (ns.map (Value.int .u8)) l') : l' = ns.map (Value.int .u8) := by
  refine List.ext_getElem h.1.symm fun i hi hi' => ?_
  have := h.2 i (by rw [h.1]; exact hi) hi
  simp only [List.getElem_map] at this ⊢
  generalize l'[i] = u at this ⊢
  cases this
  rfl

/-- A conversion. -/
theorem Sim.convert {m : Ren} {src dst : TypeId} {x x' : Value} (hx : VRel T m x x') : Sim P T w0 (VRel T) m (vconvert P src dst x) (Go.convert src dst x') := by
  intro s v s' w hv hw
  obtain ⟨ds, s1, h1, h2⟩ := bind_some hv
  obtain ⟨rfl, hds⟩ := tunder_some h1
  obtain ⟨dd, s2, h3, h4⟩ := bind_some h2
  obtain ⟨rfl, hdd⟩ := tunder_some h3
  have last : ∀ k, (if scal 4 x then vpureV P (Go.convert src dst x) else VM.fail k) s = some (v, s') → ∃ m' b w', m.le m' ∧ (Go.convert src dst x').run P w = .ok b w' ∧ VRel T m' v b ∧ HR T w0 m' s'.g w' := by
    intro k h
    split at h
    · rename_i hs
      rw [← scal_rel 4 hs hx]
      exact Sim.pureV s v s' w h hw
    · exact (fail_some h).elim
  split at h4
  · -- bytes of a string
    rename_i e str
    cases hx
    obtain ⟨de, s3, h5, h6⟩ := bind_some h4
    obtain ⟨rfl, hde⟩ := tunder_some h5
    split at h6
    · obtain ⟨r, s4, h7, h8⟩ := bind_some h6
      obtain ⟨rfl, rfl⟩ := ret_some h8
      obtain ⟨w', c, n, cap, a1, a2, a3, a4, a5, a6, a7, a8, a9⟩ := run_stringToBytes (P := P) w e str
      have hbl : (byteVals str.data.toList).length = str.size := by rw [byteVals_length]; simp
      obtain ⟨m', l1, l2, l3⟩ := newSliceRow_some h7 hw a2 a4 a5 a6 (by rw [hbl]; omega) (fun i v hv => ⟨v, a9 i v hv, byteVals_plain _ _ _ _ hv⟩) (fun j hj => by omega)
      refine ⟨m', _, w', l1, ?_, slice_new l2 a7 (by omega) rfl, l3⟩
      have : (Go.convert src dst (.string str)).run P w = (Conv.stringToBytes e str).run P w := by
        simp only [Go.convert, Sem.run_bind, run_underlying hds, run_underlying hdd, Result.andThen_ok]
        simp only [Sem.run_bind, run_underlying hde, Result.andThen_ok]
      rw [this]
      exact a1
    · exact (fail_some h6).elim
  · -- a string of bytes
    rename_i e a n z
    obtain ⟨de, s3, h5, h6⟩ := bind_some h4
    obtain ⟨rfl, hde⟩ := tunder_some h5
    split at h6
    · split at h6
      · obtain ⟨rfl, rfl⟩ := ret_some h6
        cases hx
        exact ⟨m, _, w, Ren.le_refl m, run_convert_bytes_nil w src e hds hde 0 0 dst hdd, .string _, hw⟩
      · rename_i a
        obtain ⟨l, s4, h7, h8⟩ := bind_some h6
        obtain ⟨bs, s5, h9, h10⟩ := bind_some h8
        obtain ⟨hbs, rfl⟩ := lift_some h9
        obtain ⟨rfl, rfl⟩ := ret_some h10
        cases hx
        rename_i r off b o lim xx cap hr hxx
        obtain ⟨q1, q2, c', q3, q4⟩ := rdCells_some (P := P) (a' := ⟨b, xx, none⟩) h7 hw (fun h0 => by
          rcases hxx with ⟨h, _⟩ | ⟨rfl, _, _⟩
          · rw [h] at h0; simp at h0
          · exact .mk hr)
        obtain ⟨ns, rfl, rfl⟩ := bytesOfVals_some hbs
        have hc' := q4.bytes
        refine ⟨m, .string (strOfNums ns), w, Ren.le_refl m, ?_, ?_, by rw [q1]; exact hw⟩
        · rw [run_convert_bytes_string w src dst e _ n cap hds hde hdd]
          have : c' = (ns.map (Value.int .u8)).toArray := by rw [← hc']
          rw [this] at q3
          rw [run_bytesToString w _ n cap ns q3, foldl_push_bytes]
          simp [strOfNums, ByteArray.empty, ByteArray.emptyWithCapacity]
          rfl
        · exact .string _
    · exact (fail_some h6).elim
  · exact last _ h4

end
end Vx
end

section
/- A virtual executor of the model's programs: binary operators. Conditions: what the oracle's rows say. -/
set_option linter.unusedVariables false
set_option linter.unusedSimpArgs false
namespace Vx
open Go Go.RowKit

section
variable {P : Program} {T : Nat → Option Value} {w0 : World}

theorem str_toList (s : ByteArray) : s.toList = s.data.toList := ByteArray.toList_eq s

theorem str_add (a b : ByteArray) : (⟨⟨a.data.toList ++ b.data.toList⟩⟩ : ByteArray) = a ++ b := by
  have : (a ++ b).data.toList = a.data.toList ++ b.data.toList := by rw [ByteArray.data_append, Array.toList_append]
  rw [← this]

theorem strBin_run {op : BinOp} {a b : ByteArray} {v : Value} (h : strBin op a b = some v) (t : TypeId) (x y : Operand) (w : World) :
    (do eqGuard op t x y (.string a) (.string b); binOp op t (.string a) (.string b) : Sem Value).run P w = .ok v w ∧ scal 4 v = true := by
  rw [Sem.run_bind, eqGuard_at_string]
  cases op <;> simp only [strBin, Option.some.injEq] at h <;> first | (cases h; done) | skip
  · split at h
    · rename_i hs
      simp only [Option.some.injEq] at h
      subst h
      have : ¬ (((a.size + b.size : Nat) : Int) > IntKind.i64.max) := by rw [IntKind.max_i64]; omega
      rw [str_add]
      simp only [Sem.run_pure, Result.andThen_ok, binOp, Op.stringOp, if_neg this, Sem.run_pure]
      exact ⟨trivial, rfl⟩
    · cases h
  all_goals
    subst h
    simp only [Sem.run_pure, Result.andThen_ok, binOp, Op.stringOp, str_toList]
    exact ⟨trivial, rfl⟩

/-! ### '==' where one side has an address -/
theorem veq_run {d : TypeDesc} {t : TypeId} {m : Ren} {a a' b b' : Value} {r : Bool} (ht : P.underlying t = some d) (h : veq d a b = some r) (ha : VRel T m a a') (hb : VRel T m b b')
    (hsz : ∀ e, d = .pointer e → ∃ i, P.info? e = some i ∧ i.size ≠ 0) (w : World) : (Op.equal t a' b').run P w = .ok r w := by
  have key : ∀ n, (Op.equalIn (n + 1) t a' b').run P w = .ok r w := by
   intro n
   unfold veq at h
   split at h
   · cases h; cases ha; cases hb; simp [Op.equalIn, run_underlying ht]
   · cases h; cases ha; cases hb; simp [Op.equalIn, run_underlying ht]
   · rename_i e p q
     split at h
     · rename_i hc
       obtain ⟨hbl, hs1, hs2⟩ := hc
       cases h
       cases ha
       cases hb
       rename_i r1 o1 b1 x1 e1 hr1 r2 o2 b2 x2 e2 hr2
       simp only at hbl
       subst hbl
       rw [hr1] at hr2
       cases hr2
       obtain ⟨i, hi, hne⟩ := hsz _ rfl
       simp only [Op.equalIn, Sem.run_bind, run_underlying ht, Result.andThen_ok, run_sizeOf' hi]
       rw [if_pos hne]
       simp only [sameAddr, beq_self_eq_true, if_true, Sem.run_pure]
       congr 1
       rw [Bool.eq_iff_iff]
       simp
     · cases h
   · cases h
     cases hb
     cases ha <;> simp [Op.equalIn, run_underlying ht]
   · cases h
     cases ha
     cases hb <;> simp [Op.equalIn, run_underlying ht]
   · cases h; cases ha; cases hb; simp [Op.equalIn, run_underlying ht]
   · cases h; cases ha; cases hb; simp [Op.equalIn, run_underlying ht]
   · cases h; cases ha; cases hb; simp [Op.equalIn, run_underlying ht]
   · cases h; cases ha; cases hb; simp [Op.equalIn, run_underlying ht]
   · cases h; cases ha; cases hb; simp [Op.equalIn, run_underlying ht]
   · cases h; cases ha; cases hb; simp [Op.equalIn, run_underlying ht]
   · cases h
  exact key 9999

/-- What an oracle's rows say of the tokens' values. -/
def OrcOk (P : Program) (T : Nat → Option Value) (orc : Orc) : Prop :=
  ∀ r ∈ orc, ∀ (m : Ren) (a' b' : Value), VRel T m r.2.1 a' → VRel T m r.2.2.1 b' → ∃ v', VRel T m r.2.2.2 v' ∧
    ∀ (t : TypeId) (x y : Operand) (w : World), (do eqGuard r.1 t x y a' b'; binOp r.1 t a' b' : Sem Value).run P w = .ok v' w

theorem tokEq_eq {a b : Value} (h : tokEq a b = true) : a = b := by
  unfold tokEq at h
  split at h
  · simp at h; subst h; rfl
  · simp at h; obtain ⟨rfl, rfl⟩ := h; rfl
  · cases h

theorem noGuard {op : BinOp} {t : TypeId} {x y : Operand} {d : TypeDesc} {a a' b b' : Value} {m : Ren} {r : Bool} (h : veq d a b = some r) (ha : VRel T m a a') (hb : VRel T m b b') (w : World) :
    (eqGuard op t x y a' b').run P w = .ok () w := by
  unfold veq at h
  split at h <;> first | (cases h; done) | skip
  all_goals
    first
      | (cases ha <;> cases hb <;> first | (rw [eqGuard_at_pointer]; rfl) | (rw [eqGuard_at_slice]; rfl) | (rw [eqGuard_at_map]; rfl) | (rw [eqGuard_at_func]; rfl) | (rw [eqGuard_at_nilFunc]; rfl) | (rw [eqGuard_at_iface]; rfl) | (rw [eqGuard_nil_iface]; rfl))
      | (split at h <;> first | (cases h; done) | (cases ha; rw [eqGuard_at_pointer]; rfl))

theorem binOp_eq {d : TypeDesc} {t : TypeId} {m : Ren} {a a' b b' : Value} {r : Bool} (h : veq d a b = some r) (ha : VRel T m a a') (hb : VRel T m b b') :
    binOp .eql t a' b' = (do Pure.pure (.bool (← Op.equal t a' b'))) ∧ binOp .neq t a' b' = (do Pure.pure (.bool (!(← Op.equal t a' b')))) := by
  unfold veq at h
  split at h <;> first | (cases h; done) | skip
  all_goals
    first
      | (cases ha <;> cases hb <;> exact ⟨rfl, rfl⟩)
      | (split at h <;> first | (cases h; done) | (cases ha; cases hb; exact ⟨rfl, rfl⟩))

/-- A binary operator. -/
theorem Sim.bin {orc : Orc} (ho : OrcOk P T orc) {m : Ren} {op : BinOp} {t : TypeId} {x y : Operand} {a a' b b' : Value} (ha : VRel T m a a') (hb : VRel T m b b') :
    Sim P T w0 (VRel T) m (vbin P orc op t x y a b) (do eqGuard op t x y a' b'; binOp op t a' b') := by
  intro s v s' w hx hw
  unfold vbin at hx
  split at hx
  · rename_i sa sb
    obtain ⟨h1, rfl⟩ := lift_some hx
    cases ha
    cases hb
    have := strBin_run (P := P) h1 t x y w
    exact ⟨m, v, w, Ren.le_refl m, this.1, scal_refl 4 m this.2, hw⟩
  · split at hx
    · obtain ⟨h1, rfl⟩ := lift_some hx
      unfold ask at h1
      obtain ⟨r, h2, rfl⟩ := Option.map_eq_some_iff.1 h1
      have hm := List.mem_of_find?_eq_some h2
      have hp := List.find?_some h2
      simp only [Bool.and_eq_true, beq_iff_eq] at hp
      obtain ⟨⟨rfl, e1⟩, e2⟩ := hp
      have e1 := tokEq_eq e1
      have e2 := tokEq_eq e2
      obtain ⟨v', q1, q2⟩ := ho r hm m a' b' (by rw [e1]; exact ha) (by rw [e2]; exact hb)
      exact ⟨m, v', w, Ren.le_refl m, q2 t x y w, q1, hw⟩
    · split at hx
      · rename_i hs
        simp only [Bool.and_eq_true] at hs
        rw [← scal_rel 4 hs.1 ha, ← scal_rel 4 hs.2 hb]
        exact Sim.pureV s v s' w hx hw
      · obtain ⟨d, s1, h1, h2⟩ := bind_some hx
        obtain ⟨rfl, hd⟩ := tunder_some h1
        obtain ⟨r, s2, h3, h4⟩ := bind_some h2
        obtain ⟨hv, rfl⟩ := lift_some h3
        have hg := noGuard (P := P) (op := op) (t := t) (x := x) (y := y) hv ha hb w
        have hbo := binOp_eq (t := t) hv ha hb
        have fin : (∀ e, d = .pointer e → ∃ i, P.info? e = some i ∧ i.size ≠ 0) → (op = .eql ∧ v = .bool r ∨ op = .neq ∧ v = .bool !r) → s = s' →
            ∃ m' b0 w', m.le m' ∧ (do eqGuard op t x y a' b'; binOp op t a' b' : Sem Value).run P w = .ok b0 w' ∧ VRel T m' v b0 ∧ HR T w0 m' s'.g w' := by
          intro hsz hop hss
          subst hss
          have he := veq_run hd hv ha hb hsz w
          rcases hop with ⟨rfl, rfl⟩ | ⟨rfl, rfl⟩
          · refine ⟨m, _, w, Ren.le_refl m, ?_, .bool r, hw⟩
            rw [Sem.run_bind, hg, hbo.1]
            simp [he]
          · refine ⟨m, _, w, Ren.le_refl m, ?_, .bool _, hw⟩
            rw [Sem.run_bind, hg, hbo.2]
            simp [he]
        split at h4
        · rename_i e
          obtain ⟨n, s3, h5, h6⟩ := bind_some h4
          obtain ⟨rfl, i, hi, rfl⟩ := tsize_some h5
          split at h6
          · exact (fail_some h6).elim
          · rename_i hn
            obtain ⟨rfl, rfl⟩ := ret_some h6
            exact fin (by rintro e' he; cases he; exact ⟨i, hi, hn⟩) (.inl ⟨rfl, rfl⟩) rfl
        · rename_i e
          obtain ⟨n, s3, h5, h6⟩ := bind_some h4
          obtain ⟨rfl, i, hi, rfl⟩ := tsize_some h5
          split at h6
          · exact (fail_some h6).elim
          · rename_i hn
            obtain ⟨rfl, rfl⟩ := ret_some h6
            exact fin (by rintro e' he; cases he; exact ⟨i, hi, hn⟩) (.inr ⟨rfl, rfl⟩) rfl
        · rename_i hnp
          obtain ⟨rfl, rfl⟩ := ret_some h4
          exact fin (by rintro e' rfl; exact (hnp e' rfl).elim) (.inl ⟨rfl, rfl⟩) rfl
        · rename_i hnp
          obtain ⟨rfl, rfl⟩ := ret_some h4
          exact fin (by rintro e' rfl; exact (hnp e' rfl).elim) (.inr ⟨rfl, rfl⟩) rfl
        · exact (fail_some h4).elim

end
end Vx
end

section
/- A virtual executor of the model's programs: maps. Conditions: none beyond the program's tables. -/
set_option linter.unusedVariables false
set_option linter.unusedSimpArgs false
namespace Vx
open Go Go.RowKit

section
variable {P : Program} {T : Nat → Option Value} {w0 : World}

/-- What is found by keys alone, and what is found. -/
def FoundR (l : List MapEntry) (i : Nat) (r r' : Option (Nat × Value)) : Prop :=
  r = none ∧ r' = none ∨ ∃ j v e, r = some (j, undef) ∧ r' = some (j, v) ∧ i ≤ j ∧ l[j - i]? = some e ∧ e.val = v

theorem findNow_keys (kind : TypeDesc) (k : Value) : ∀ (l : List MapEntry) (i : Nat),
    (Instr.findNow kind k (keysOf l) i = none ∧ Instr.findNow kind k l i = none) ∨ ∃ r r', Instr.findNow kind k (keysOf l) i = some r ∧ Instr.findNow kind k l i = some r' ∧ FoundR l i r r' := by
  intro l
  induction l with
  | nil => intro i; exact .inr ⟨none, none, rfl, rfl, .inl ⟨rfl, rfl⟩⟩
  | cons e l ih =>
    intro i
    simp only [keysOf, List.map_cons, Instr.findNow]
    cases hs : Instr.sameNow kind k e.key with
    | none => exact .inl ⟨rfl, rfl⟩
    | some b =>
      cases b with
      | true => exact .inr ⟨_, _, rfl, rfl, .inr ⟨i, e.val, e, rfl, rfl, Nat.le_refl _, by simp, rfl⟩⟩
      | false =>
        rcases ih (i + 1) with ⟨h1, h2⟩ | ⟨r, r', h1, h2, h3⟩
        · exact .inl ⟨h1, h2⟩
        · refine .inr ⟨r, r', h1, h2, ?_⟩
          rcases h3 with h3 | ⟨j, v, e', q1, q2, q3, q4, q5⟩
          · exact .inl h3
          · refine .inr ⟨j, v, e', q1, q2, by omega, ?_, q5⟩
            have : j - i = (j - (i + 1)) + 1 := by omega
            rw [this, List.getElem?_cons_succ]
            exact q4

theorem findAsking_keys (kt : TypeId) (k : Value) : ∀ (l : List MapEntry) (i : Nat) (w w' : World) (r : Option (Nat × Value)), (Instr.findAsking kt k (keysOf l) i).run P w = .ok r w' →
    ∃ r', (Instr.findAsking kt k l i).run P w = .ok r' w' ∧ FoundR l i r r' := by
  intro l
  induction l with
  | nil => intro i w w' r h; simp only [keysOf, List.map_nil, Instr.findAsking, Sem.run_pure] at h; cases h; exact ⟨none, rfl, .inl ⟨rfl, rfl⟩⟩
  | cons e l ih =>
    intro i w w' r h
    simp only [keysOf, List.map_cons, Instr.findAsking, Sem.run_bind] at h ⊢
    cases he : (Op.equal kt k e.key).run P w with
    | halt x y => rw [he] at h; cases h
    | ok b w1 =>
      rw [he] at h
      simp only [Result.andThen_ok] at h ⊢
      cases b with
      | true =>
        simp only [if_true, Sem.run_pure] at h ⊢
        cases h
        exact ⟨_, rfl, .inr ⟨i, e.val, e, rfl, rfl, Nat.le_refl _, by simp, rfl⟩⟩
      | false =>
        simp only [Bool.false_eq_true, if_false] at h ⊢
        obtain ⟨r', h1, h3⟩ := ih (i + 1) w1 w' r h
        refine ⟨r', h1, ?_⟩
        rcases h3 with h3 | ⟨j, v, e', q1, q2, q3, q4, q5⟩
        · exact .inl h3
        · refine .inr ⟨j, v, e', q1, q2, by omega, ?_, q5⟩
          have : j - i = (j - (i + 1)) + 1 := by omega
          rw [this, List.getElem?_cons_succ]
          exact q4

theorem findKey_keys (kt : TypeId) (k : Value) (l : List MapEntry) (w : World) (r : Option (Nat × Value)) (h : (Instr.findKey kt k (keysOf l)).run P w = .ok r w) :
    ∃ r', (Instr.findKey kt k l).run P w = .ok r' w ∧ FoundR l 0 r r' := by
  unfold Instr.findKey at h ⊢
  simp only [Sem.run_bind] at h ⊢
  cases hu : (underlying kt).run P w with
  | halt x y => rw [hu] at h; cases h
  | ok d w1 =>
    rw [hu] at h
    simp only [Result.andThen_ok] at h ⊢
    rcases findNow_keys d k l 0 with ⟨h1, h2⟩ | ⟨r1, r1', h1, h2, h3⟩
    · rw [h1] at h
      rw [h2]
      exact findAsking_keys kt k l 0 w1 w r h
    · rw [h1] at h
      rw [h2]
      simp only [Sem.run_pure] at h ⊢
      cases h
      exact ⟨r1', rfl, h3⟩

/-- Entries one by one. -/
def EsRel (T : Nat → Option Value) (m : Ren) (es es' : Array MapEntry) : Prop := es.size = es'.size ∧ ∀ i (h : i < es.size) (h' : i < es'.size), EntryRel T m es[i] es'[i]

theorem EsRel.get? {m : Ren} {es es' : Array MapEntry} (h : EsRel T m es es') {i : Nat} {e : MapEntry} (he : es[i]? = some e) : ∃ e', es'[i]? = some e' ∧ EntryRel T m e e' := by
  obtain ⟨hi, rfl⟩ := Array.getElem?_eq_some_iff.1 he
  exact ⟨es'[i]'(by rw [← h.1]; exact hi), Array.getElem?_eq_getElem _, h.2 i hi _⟩

theorem keys_eq {m : Ren} {es es' : Array MapEntry} (h : EsRel T m es es') (hs : es.toList.all (fun e => scal 4 e.key) = true) : keysOf es.toList = keysOf es'.toList := by
  refine List.ext_getElem (by simp [keysOf, h.1]) fun i hi hi' => ?_
  simp only [keysOf, List.getElem_map, Array.getElem_toList]
  have hi1 : i < es.size := by simpa [keysOf] using hi
  have hi2 : i < es'.size := by simpa [keysOf] using hi'
  have he := h.2 i hi1 hi2
  have hk : scal 4 es[i].key = true := List.all_eq_true.1 hs _ (by simp)
  rw [scal_rel 4 hk he.key, he.born]

theorem vfind_some {m : Ren} {key : TypeId} {k : Value} {es es' : Array MapEntry} {empty : Bool} {i : Option Nat} {s s' : VS} (h : vfind P key k es.toList empty s = some (i, s')) (hr : EsRel T m es es') :
    s' = s ∧ scal 4 k = true ∧ (∀ w, (Instr.checkKey empty 10000 key k).run P w = .ok () w) ∧
      ∀ w, ∃ r', (Instr.findKey key k es'.toList).run P w = .ok r' w ∧ (i = none ∧ r' = none ∨ ∃ j e', i = some j ∧ r' = some (j, e'.val) ∧ es'[j]? = some e') := by
  unfold vfind at h
  split at h
  · rename_i hs
    simp only [Bool.and_eq_true] at hs
    obtain ⟨u, s1, h1, h2⟩ := bind_some h
    obtain ⟨rfl, c1⟩ := vpure_some h1
    obtain ⟨r, s2, h3, h4⟩ := bind_some h2
    obtain ⟨rfl, c2⟩ := vpure_some h3
    obtain ⟨rfl, rfl⟩ := ret_some h4
    refine ⟨rfl, hs.1, c1, fun w => ?_⟩
    have := c2 w
    rw [keys_eq hr hs.2] at this
    obtain ⟨r', q1, q2⟩ := findKey_keys key k es'.toList w r this
    refine ⟨r', q1, ?_⟩
    rcases q2 with ⟨rfl, rfl⟩ | ⟨j, v, e, rfl, rfl, _, q3, rfl⟩
    · exact .inl ⟨rfl, rfl⟩
    · exact .inr ⟨j, e, rfl, rfl, by simpa using q3⟩
  · exact (fail_some h).elim

theorem rdMap_some {m : Ren} {r : Nat} {es : Array MapEntry} {clock : Nat} {s s' : VS} {w : World} (h : rdMap r s = some ((es, clock), s')) (hw : HR T w0 m s.g w) :
    s'.g = s.g ∧ s.g r = some (.obj (.map es clock)) ∧ ∃ b x y es', m r = some (b, x, y) ∧ w.heap[b]? = some (.map es' clock) ∧ EsRel T m es es' := by
  obtain ⟨ob, s1, h1, h2⟩ := bind_some h
  obtain ⟨g1, g2⟩ := rd_some h1
  cases ob <;> try exact (fail_some h2).elim
  rename_i o
  cases o <;> try exact (fail_some h2).elim
  obtain ⟨hp, rfl⟩ := ret_some h2
  simp only [Prod.mk.injEq] at hp
  obtain ⟨rfl, rfl⟩ := hp
  obtain ⟨b, o', x, y, q1, q2, q3, _⟩ := hw.objs _ _ g1
  cases q3
  rename_i es' hs he
  exact ⟨g2, g1, b, x, y, es', q1, q2, hs, he⟩

theorem run_getObj {w : World} {b : Nat} {o : Obj} (h : w.heap[b]? = some o) (hn : ∀ c e fz, o ≠ .cells c e fz) : (getObj b).run P w = .ok o w := by
  simp only [getObj, Sem.run, h]

theorem tmap_some {t : TypeId} {p : TypeId × TypeId} {s s' : VS} (h : tmap P t s = some (p, s')) : s = s' ∧ P.underlying t = some (.map p.1 p.2) := by
  obtain ⟨d, s1, h1, h2⟩ := bind_some h
  obtain ⟨rfl, hd⟩ := tunder_some h1
  cases d <;> try exact (fail_some h2).elim
  obtain ⟨rfl, rfl⟩ := ret_some h2
  exact ⟨rfl, hd⟩

/-- A look-up. -/
theorem Sim.lookup (hz : ZeroOk P) {m : Ren} {t : TypeId} {x x' k k' : Value} {ok : Bool} (hx : VRel T m x x') (hk : VRel T m k k') : Sim P T w0 (VRel T) m (vlookup P t x k ok) (Instr.lookup t x' k' ok) := by
  intro s v s' w hv hw
  obtain ⟨⟨key, elem⟩, s1, h1, h2⟩ := bind_some hv
  obtain ⟨rfl, ht⟩ := tmap_some h1
  simp only at h2 ht
  obtain ⟨⟨es, clock⟩, s2, h3, h4⟩ := bind_some h2
  have hes : s2.g = s.g ∧ ∃ es', EsRel T m es es' ∧ ((x' = .map none ∧ es' = #[]) ∨ ∃ b c, x' = .map (some b) ∧ w.heap[b]? = some (.map es' c)) := by
    cases x <;> try exact (fail_some h3).elim
    rename_i o
    cases o with
    | none =>
      obtain ⟨hp, rfl⟩ := ret_some h3
      simp only [Prod.mk.injEq] at hp
      obtain ⟨rfl, rfl⟩ := hp
      cases hx
      exact ⟨rfl, #[], ⟨rfl, fun i h _ => by simp at h⟩, .inl ⟨rfl, rfl⟩⟩
    | some r =>
      obtain ⟨q1, q2, b, x, y, es', q3, q4, q5⟩ := rdMap_some h3 hw
      cases hx
      rename_i b' o' e' hr
      rw [q3] at hr
      cases hr
      exact ⟨q1, es', q5, .inr ⟨_, _, rfl, q4⟩⟩
  obtain ⟨hg2, es', hrel, hrun⟩ := hes
  obtain ⟨i, s3, h5, h6⟩ := bind_some h4
  simp only at h5
  obtain ⟨rfl, hsk, hck, hfind⟩ := vfind_some h5 hrel
  obtain ⟨⟨u, b⟩, s4, h7, h8⟩ := bind_some h6
  obtain ⟨rfl, rfl⟩ := ret_some h8
  have hkk := scal_rel 4 hsk hk
  subst hkk
  have hemp : es'.isEmpty = es.isEmpty := by simp [Array.isEmpty, hrel.1]
  obtain ⟨r', c1, c2⟩ := hfind w
  rw [← hemp] at hck
  have hval : s4 = s3 ∧ ∃ u', VRel T m u u' ∧ (Instr.lookup t x' k ok).run P w = .ok (if ok then .tuple #[u', .bool b] else u') w := by
    rcases c2 with ⟨rfl, rfl⟩ | ⟨j, e', rfl, rfl, c3⟩
    · obtain ⟨z, s5, h9, h10⟩ := bind_some h7
      obtain ⟨rfl, i, hi, hzz, htt⟩ := tzero_some h9
      obtain ⟨hp, rfl⟩ := ret_some h10
      simp only [Prod.mk.injEq] at hp
      obtain ⟨rfl, rfl⟩ := hp
      refine ⟨rfl, z, scal_refl 4 m (hz _ _ _ htt hi hzz).1, ?_⟩
      rcases hrun with ⟨rfl, rfl⟩ | ⟨b, c, rfl, hb⟩
      · simp only [Instr.lookup, Sem.run_bind, run_underlying ht, Result.andThen_ok, hck w, c1, run_zeroValue' hi hzz, Sem.run_pure]
      · simp only [Instr.lookup, Sem.run_bind, run_underlying ht, Result.andThen_ok, run_getObj hb (by intro _ _ _ h; cases h), hck w, c1, run_zeroValue' hi hzz, Sem.run_pure]
    · obtain ⟨e, s5, h9, h10⟩ := bind_some h7
      obtain ⟨he, rfl⟩ := lift_some h9
      obtain ⟨hp, rfl⟩ := ret_some h10
      simp only [Prod.mk.injEq] at hp
      obtain ⟨rfl, rfl⟩ := hp
      obtain ⟨e2, q1, q2⟩ := hrel.get? he
      rw [c3] at q1
      cases q1
      refine ⟨rfl, e'.val, q2.val, ?_⟩
      rcases hrun with ⟨rfl, rfl⟩ | ⟨b, c, rfl, hb⟩
      · simp at c3
      · simp only [Instr.lookup, Sem.run_bind, run_underlying ht, Result.andThen_ok, run_getObj hb (by intro _ _ _ h; cases h), hck w, c1, Sem.run_pure]
  obtain ⟨rfl, u', hu1, hu2⟩ := hval
  refine ⟨m, _, w, Ren.le_refl m, hu2, ?_, by rw [hg2]; exact hw⟩
  cases ok with
  | true => exact .tuple' (LRel.cons hu1 (LRel.cons (.bool b) (LRel.nil m)))
  | false => exact hu1

end
end Vx
end

section
/- A virtual executor of the model's programs: maps are written. Conditions: none beyond the program's tables. -/
set_option linter.unusedVariables false
set_option linter.unusedSimpArgs false
namespace Vx
open Go Go.RowKit

section
variable {P : Program} {T : Nat → Option Value} {w0 : World}

theorem run_setObj {w : World} {b : Nat} {o o' : Obj} (h : w.heap[b]? = some o) (hn : ∀ c e fz, o ≠ .cells c e fz) : (Go.setObj b o').run P w = .ok () { w with heap := w.heap.setIfInBounds b o' } := by
  simp only [Go.setObj, Sem.run, h]

theorem HR.setMap {m : Ren} {g : Hp} {w : World} (h : HR T w0 m g w) {k b x y c : Nat} {es es' fs fs' : Array MapEntry} {d d' : Nat} (hk : g k = some (.obj (.map es d))) (hm : m k = some (b, x, y)) (hb : w.heap[b]? = some (.map es' c)) (hr : EsRel T m fs fs') :
    (Go.setObj b (.map fs' d')).run P w = .ok () { w with heap := w.heap.setIfInBounds b (.map fs' d') } ∧ HR T w0 m (upd g k (.obj (.map fs d'))) { w with heap := w.heap.setIfInBounds b (.map fs' d') } :=
  ⟨run_setObj hb (by intro _ _ _ h; cases h), h.setObj hk hm rfl rfl rfl rfl (.map d' hr.1 hr.2)⟩

theorem EsRel.push {m : Ren} {es es' : Array MapEntry} (h : EsRel T m es es') {e e' : MapEntry} (he : EntryRel T m e e') : EsRel T m (es.push e) (es'.push e') := by
  refine ⟨by simp [h.1], fun i hi hi' => ?_⟩
  rw [Array.getElem_push, Array.getElem_push]
  have := h.1
  by_cases hlt : i < es.size
  · have hlt' : i < es'.size := by omega
    rw [dif_pos hlt, dif_pos hlt']
    exact h.2 i hlt hlt'
  · have hlt' : ¬ i < es'.size := by omega
    rw [dif_neg hlt, dif_neg hlt']
    exact he

theorem EsRel.modify {m : Ren} {es es' : Array MapEntry} (h : EsRel T m es es') {j : Nat} {k v v' : Value} (hk : VRel T m k k) (hv : VRel T m v v') :
    EsRel T m (es.modify j fun e => { e with key := k, val := v }) (es'.modify j fun e => { e with key := k, val := v' }) := by
  refine ⟨by simp [h.1], fun i hi hi' => ?_⟩
  rw [Array.getElem_modify, Array.getElem_modify]
  have h0 := h.2 i (by simpa using hi) (by simpa using hi')
  split
  · exact ⟨hk, hv, h0.born⟩
  · exact h0

theorem EsRel.erase {m : Ren} {es es' : Array MapEntry} (h : EsRel T m es es') (j : Nat) : EsRel T m (es.eraseIdxIfInBounds j) (es'.eraseIdxIfInBounds j) := by
  have hs := h.1
  unfold Array.eraseIdxIfInBounds
  by_cases hj : j < es.size
  · have hj' : j < es'.size := by omega
    rw [dif_pos hj, dif_pos hj']
    refine ⟨by simp [hs], fun i hi hi' => ?_⟩
    simp only [Array.size_eraseIdx] at hi hi'
    rw [Array.getElem_eraseIdx, Array.getElem_eraseIdx]
    split
    · exact h.2 i _ _
    · exact h.2 (i + 1) _ _
  · have hj' : ¬ j < es'.size := by omega
    rw [dif_neg hj, dif_neg hj']
    exact h

theorem Sim.mapUpdate {m : Ren} {t : TypeId} {x x' k k' v v' : Value} (hx : VRel T m x x') (hk : VRel T m k k') (hv : VRel T m v v') : Sim P T w0 EqR m (vmapUpdate P t x k v) (Instr.mapUpdate t x' k' v') := by
  intro s u s' w h0 hw
  obtain ⟨⟨key, elem⟩, s1, h1, h2⟩ := bind_some h0
  obtain ⟨rfl, ht⟩ := tmap_some h1
  simp only at h2 ht
  cases x <;> try exact (fail_some h2).elim
  rename_i o
  cases o with
  | none => exact (fail_some h2).elim
  | some r =>
    obtain ⟨⟨es, clock⟩, s2, h3, h4⟩ := bind_some h2
    obtain ⟨q1, q2, b, y, z, es', q3, q4, hrel⟩ := rdMap_some h3 hw
    cases hx
    rename_i b' o' e' hr
    rw [q3] at hr
    cases hr
    obtain ⟨i, s3, h5, h6⟩ := bind_some h4
    simp only at h5
    obtain ⟨rfl, hsk, hck, hfind⟩ := vfind_some h5 hrel
    have hkk := scal_rel 4 hsk hk
    subst hkk
    obtain ⟨r', c1, c2⟩ := hfind w
    have hn : ∀ c e fz, Obj.map es' clock ≠ .cells c e fz := by intro _ _ _ h; cases h
    rcases c2 with ⟨rfl, rfl⟩ | ⟨j, e', rfl, rfl, c3⟩
    · obtain ⟨_, hg⟩ := wr_some h6
      obtain ⟨r1, r2⟩ := hw.setMap (P := P) (d' := clock + 1) q2 q3 q4 (hrel.push (e := { key := k, val := v, born := clock }) (e' := { key := k, val := v', born := clock }) ⟨hk, hv, rfl⟩)
      refine ⟨m, (), _, Ren.le_refl m, ?_, rfl, by rw [hg, q1]; exact r2⟩
      simp only [Instr.mapUpdate, Sem.run_bind, run_underlying ht, Result.andThen_ok, run_getObj q4 hn, hck w, c1, r1]
    · obtain ⟨e, s5, h9, h10⟩ := bind_some h6
      obtain ⟨he, rfl⟩ := lift_some h9
      obtain ⟨k2, s6, h11, h12⟩ := bind_some h10
      obtain ⟨rfl, c4⟩ := vpure_some h11
      obtain ⟨e2, p1, p2⟩ := hrel.get? he
      rw [c3] at p1
      cases p1
      split at h12
      · rename_i hs2
        obtain ⟨_, hg⟩ := wr_some h12
        obtain ⟨r1, r2⟩ := hw.setMap (P := P) (d' := clock) q2 q3 q4 (hrel.modify (j := j) (scal_refl 4 m hs2) hv)
        refine ⟨m, (), _, Ren.le_refl m, ?_, rfl, by rw [hg, q1]; exact r2⟩
        have hs3 : scal 4 e.key = true := by
          unfold vfind at h5
          split at h5
          · rename_i hh
            simp only [Bool.and_eq_true] at hh
            exact List.all_eq_true.1 hh.2 _ (by simpa using Array.mem_of_getElem? he)
          · exact (fail_some h5).elim
        have hkey := scal_rel 4 hs3 p2.key
        simp only [Instr.mapUpdate, Sem.run_bind, run_underlying ht, Result.andThen_ok, run_getObj q4 hn, hck w, c1, c3, Option.map_some, Option.getD_some, ← hkey, c4 w, r1]
      · exact (fail_some h12).elim

theorem Sim.delete {m : Ren} {ts : Array TypeId} {ty : TypeId} {x x' k k' : Value} {args' : Array Value} (h0' : args'[0]? = some x') (h1' : args'[1]? = some k') (hx : VRel T m x x') (hk : VRel T m k k') : Sim P T w0 (VRel T) m (vdelete P ts x k) (Builtin.delete_ ts ty args') := by
  intro s u s' w h0 hw
  obtain ⟨t, s0, h1a, h2a⟩ := bind_some h0
  obtain ⟨ht0, rfl⟩ := lift_some h1a
  obtain ⟨⟨key, elem⟩, s1, h1, h2⟩ := bind_some h2a
  clear h0 h2a h1a
  obtain ⟨rfl, ht⟩ := tmap_some h1
  simp only at h2 ht
  cases x <;> try exact (fail_some h2).elim
  rename_i o
  cases o with
  | none =>
    dsimp only at h2
    split at h2
    · rename_i hs
      obtain ⟨_, s2, h3, h4⟩ := bind_some h2
      obtain ⟨rfl, c1⟩ := vpure_some h3
      obtain ⟨rfl, rfl⟩ := ret_some h4
      cases hx
      have hkk := scal_rel 4 hs hk
      subst hkk
      refine ⟨m, .tuple #[], w, Ren.le_refl m, ?_, .tuple' (LRel.nil m), hw⟩
      simp only [Builtin.delete_, ht0, h0', h1', Sem.run_bind, run_underlying ht, Result.andThen_ok, c1 w, Sem.run_pure]
    · exact (fail_some h2).elim
  | some r =>
    obtain ⟨⟨es, clock⟩, s2, h3, h4⟩ := bind_some h2
    obtain ⟨q1, q2, b, y, z, es', q3, q4, hrel⟩ := rdMap_some h3 hw
    cases hx
    rename_i b' o' e' hr
    rw [q3] at hr
    cases hr
    obtain ⟨i, s3, h5, h6⟩ := bind_some h4
    simp only at h5
    obtain ⟨rfl, hsk, hck, hfind⟩ := vfind_some h5 hrel
    have hkk := scal_rel 4 hsk hk
    subst hkk
    obtain ⟨r', c1, c2⟩ := hfind w
    have hemp : es'.isEmpty = es.isEmpty := by simp [Array.isEmpty, hrel.1]
    rw [← hemp] at hck
    have hn : ∀ c e fz, Obj.map es' clock ≠ .cells c e fz := by intro _ _ _ h; cases h
    rcases c2 with ⟨rfl, rfl⟩ | ⟨j, e', rfl, rfl, c3⟩
    · obtain ⟨_, s5, h9, h10⟩ := bind_some h6
      obtain ⟨_, hg⟩ := wr_some h9
      obtain ⟨rfl, rfl⟩ := ret_some h10
      obtain ⟨r1, r2⟩ := hw.setMap (P := P) (d' := clock) q2 q3 q4 hrel
      refine ⟨m, .tuple #[], _, Ren.le_refl m, ?_, .tuple' (LRel.nil m), by rw [hg, q1]; exact r2⟩
      simp only [Builtin.delete_, ht0, h0', h1', Sem.run_bind, run_underlying ht, Result.andThen_ok, run_getObj q4 hn, hck w, c1, r1, Sem.run_pure]
    · obtain ⟨_, s5, h9, h10⟩ := bind_some h6
      obtain ⟨_, hg⟩ := wr_some h9
      obtain ⟨rfl, rfl⟩ := ret_some h10
      obtain ⟨r1, r2⟩ := hw.setMap (P := P) (d' := clock) q2 q3 q4 (hrel.erase j)
      refine ⟨m, .tuple #[], _, Ren.le_refl m, ?_, .tuple' (LRel.nil m), by rw [hg, q1]; exact r2⟩
      simp only [Builtin.delete_, ht0, h0', h1', Sem.run_bind, run_underlying ht, Result.andThen_ok, run_getObj q4 hn, hck w, c1, r1, Sem.run_pure]

end
end Vx
end

section
/- A virtual executor of the model's programs: an operation. Conditions: the program's zero values are plain, the oracle's rows are true, no more. -/
set_option linter.unusedVariables false
set_option linter.unusedSimpArgs false
namespace Vx
open Go Go.RowKit

section
variable {P : Program} {T : Nat → Option Value} {w0 : World}

theorem Sim.asV {m : Ren} {x : VM Value} {t : Sem Value} (h : Sim P T w0 (VRel T) m x t) : Sim P T w0 (NRel T) m (VM.bind x fun v => VM.ret (Next.value v)) (do Pure.pure (Next.value (← t))) :=
  Sim.bind h fun _ _ _ _ hv => Sim.ret (.value hv)

theorem ARel.map {m : Ren} {ρ ρ' : Operand → Value} {a : Array Operand} (h : ∀ x ∈ a, VRel T m (ρ x) (ρ' x)) : ARel T m (a.map ρ) (a.map ρ') := by
  unfold ARel
  rw [Array.toList_map, Array.toList_map]
  have h' : ∀ x ∈ a.toList, VRel T m (ρ x) (ρ' x) := fun x hx => h x (by simpa using hx)
  generalize a.toList = l at h'
  induction l with
  | nil => exact LRel.nil m
  | cons x l ih => exact LRel.cons (h' x (by simp)) (ih fun y hy => h' y (by simp [hy]))

theorem PRel.map {m : Ren} {ρ ρ' : Operand → Value} {l : List (Nat × Operand)} (h : ∀ x ∈ l, VRel T m (ρ x.2) (ρ' x.2)) : PRel T m (l.map fun x => (x.1, ρ x.2)) (l.map fun x => (x.1, ρ' x.2)) := by
  induction l with
  | nil => exact .nil
  | cons x l ih => exact .cons (h x (by simp)) (ih fun y hy => h y (by simp [hy]))

theorem ORel.map {m : Ren} {ρ ρ' : Operand → Value} {x : Option Operand} (h : ∀ y, x = some y → VRel T m (ρ y) (ρ' y)) : ORel T m (x.map ρ) (x.map ρ') := by
  cases x with
  | none => exact .inl ⟨rfl, rfl⟩
  | some y => exact .inr ⟨_, _, rfl, rfl, h y rfl⟩

theorem ARel.at? {m : Ren} {a a' : Array Value} (h : ARel T m a a') {i : Nat} {v : Value} (hv : a[i]? = some v) : ∃ v', a'[i]? = some v' ∧ VRel T m v v' := by
  obtain ⟨v', h1, h2⟩ := LRel.get? h (i := i) (v := v) (by simpa using hv)
  exact ⟨v', by simpa using h1, h2⟩

theorem allScal_eq {m : Ren} {l l' : List Value} (h : LRel T m l l') (hs : l.all (scal 4) = true) : l = l' := by
  refine List.ext_getElem h.1 fun i hi hi' => ?_
  exact scal_rel 4 (List.all_eq_true.1 hs _ (List.getElem_mem hi)) (h.2 i hi hi')

theorem Sim.ifs {α β : Type} {R : Ren → α → β → Prop} {m : Ren} {c : Bool} {x : VM α} {n : Nat} {t : Sem β} (h : c = true → Sim P T w0 R m x t) : Sim P T w0 R m (if c = true then x else VM.fail n) t := by
  cases c with
  | true => exact h rfl
  | false => exact Sim.fail (n := n)

theorem Sim.cap {m : Ren} {ts : Array TypeId} {ty : TypeId} {a a' : Array Value} (ha : ARel T m a a') {z : Nat} {b : Option Addr} {l : Nat} (h0 : a[0]? = some (.slice none l z)) :
    Sim P T w0 (NRel T) m (VM.bind (lift ts[0]?) fun t => VM.bind (tsliceElem P t) fun _ => VM.ret (.value (.int .i64 0))) (do Pure.pure (Next.value (← Builtin.cap_ ts ty a'))) := by
  intro s v s' w h hw
  obtain ⟨t, s1, h1, h2⟩ := bind_some h
  obtain ⟨ht, rfl⟩ := lift_some h1
  obtain ⟨e, s2, h3, h4⟩ := bind_some h2
  obtain ⟨rfl, hu⟩ := tsliceElem_some h3
  obtain ⟨rfl, rfl⟩ := ret_some h4
  obtain ⟨v', h5, h6⟩ := ha.at? h0
  cases h6
  refine ⟨m, .value (.int .i64 0), w, Ren.le_refl m, ?_, .value (.int _ _), hw⟩
  simp only [Builtin.cap_, ht, h5, Sem.run_bind, run_underlying hu, Result.andThen_ok, Sem.run_pure]
  rfl

theorem Sim.builtin (hz : ZeroOk P) {m : Ren} {b : Builtin} {ts : Array TypeId} {ty : TypeId} {cs : Array Bool} {a a' : Array Value} (ha : ARel T m a a') : Sim P T w0 (NRel T) m (vbuiltin P b ts ty a) (Go.builtin b ts ty cs a') := by
  cases b with
  | append =>
    simp only [vbuiltin, Go.builtin]
    split
    · rename_i s x h0 h1
      obtain ⟨s', h2, h3⟩ := ha.at? h0
      obtain ⟨x', h4, h5⟩ := ha.at? h1
      exact Sim.asV (Sim.append hz h3 h5 h2 h4)
    · exact Sim.fail
  | cap =>
    simp only [vbuiltin, Go.builtin]
    split
    · rename_i l z h0
      exact Sim.cap (b := none) ha h0
    · exact Sim.fail
  | delete =>
    simp only [vbuiltin, Go.builtin]
    split
    · rename_i s x h0 h1
      obtain ⟨s', h2, h3⟩ := ha.at? h0
      obtain ⟨x', h4, h5⟩ := ha.at? h1
      exact Sim.asV (Sim.delete h2 h4 h3 h5)
    · exact Sim.fail
  | len =>
    simp only [vbuiltin, Go.builtin]
    exact Sim.asV (TSim.len ha)
  | max =>
    simp only [vbuiltin, Go.builtin]
    refine Sim.ifs fun hs => ?_
    have : a = a' := Array.ext' (allScal_eq ha hs)
    subst this
    exact Sim.asV Sim.pureV
  | min =>
    simp only [vbuiltin, Go.builtin]
    refine Sim.ifs fun hs => ?_
    have : a = a' := Array.ext' (allScal_eq ha hs)
    subst this
    exact Sim.asV Sim.pureV
  | _ => exact Sim.fail (n := 0)

theorem Sim.target {m : Ren} {d d' : Deferred} (h : DefRel T m d d') : Sim P T w0 (NRel T) m (vtarget P d.target d.args) (invoke d'.target d'.args) := by
  obtain ⟨t, a⟩ := d
  obtain ⟨t', a'⟩ := d'
  obtain ⟨ht, ha⟩ := h
  simp only at ht ha ⊢
  cases ht with
  | nil => exact Sim.fail (n := 0)
  | collected h => exact Sim.fail (n := 0)
  | fn hf hc =>
    rename_i fn fn' c c'
    cases hf with
    | yield h => exact Sim.fail (n := 0)
    | same fn hne =>
    cases fn with
    | func f =>
    simp only [vtarget, invoke]
    refine Sim.ifs fun hb => ?_
    unfold fnOk at hb
    split at hb
    · rename_i fn hfn
      simp only [Bool.and_eq_true, Bool.not_eq_true'] at hb
      intro s v s' w hv hw
      obtain ⟨rfl, rfl⟩ := ret_some hv
      refine ⟨m, .enter f (a' ++ c'), w, Ren.le_refl m, ?_, .enter (ha.append hc), hw⟩
      have hbn : fn.body.isNone = false := by
        have := hb.1
        cases hfb : fn.body <;> simp [hfb] at this ⊢
      simp only [callFunc, Sem.run_bind, run_program, Result.andThen_ok, hfn, hb.2, hbn, Bool.false_eq_true, if_false, Sem.run_pure]
    · cases hb
    | _ => exact Sim.fail (n := 0)

/-- An operation. -/
theorem Sim.op {orc : Orc} (hz : ZeroOk P) (ho : OrcOk P T orc) {m : Ren} {ρ ρ' : Operand → Value} {o : Oper} (hρ : ∀ x ∈ o.op.operands, VRel T m (ρ x) (ρ' x)) : Sim P T w0 (NRel T) m (vop P orc ρ o) (execOp ρ' o) := by
  obtain ⟨dst, op, type, pos, after, guard⟩ := o
  simp only at hρ
  have one : ∀ {x}, x ∈ op.operands → VRel T m (ρ x) (ρ' x) := fun h => hρ _ h
  clear hρ
  cases op with
  | buildSlice t len ps =>
    refine Sim.asV (Sim.buildSlice hz ?_)
    rw [Array.toList_map, Array.toList_map]
    exact PRel.map fun x hx => one (by simp only [Op.operands]; simp; exact ⟨_, by simpa using hx⟩)
  | makeSlice t l c => exact Sim.asV (Sim.makeSlice hz (one (by simp [Op.operands])) (one (by simp [Op.operands])))
  | slice t x lo hi mx =>
    refine Sim.asV (Sim.slice (one (by simp [Op.operands])) (ORel.map ?_) (ORel.map ?_) (ORel.map ?_)) <;> (rintro y rfl; exact one (by simp [Op.operands]))
  | convert s d x => exact Sim.asV (Sim.convert (one (by simp [Op.operands])))
  | binOp op t x y _ => exact Sim.asV (Sim.bin ho (one (by simp [Op.operands])) (one (by simp [Op.operands])))
  | unOp op t x =>
    simp only [vop, execOp]
    refine Sim.ifs fun hs => ?_
    have := scal_rel 4 hs (one (x := x) (by simp [Op.operands]))
    rw [← this]
    exact Sim.asV Sim.pureV
  | index t x i => exact Sim.asV (TSim.index (one (by simp [Op.operands])) (one (by simp [Op.operands])))
  | lookup t x k ok => exact Sim.asV (Sim.lookup hz (one (by simp [Op.operands])) (one (by simp [Op.operands])))
  | mapUpdate t x k v =>
    exact Sim.bind (Sim.mapUpdate (one (by simp [Op.operands])) (one (by simp [Op.operands])) (one (by simp [Op.operands]))) fun _ _ _ _ _ => Sim.ret .skip
  | call c =>
    simp only [vop, execOp]
    have hargs : ∀ x ∈ c.args, VRel T m (ρ x) (ρ' x) := fun x hx => one (by simp only [Op.operands, Call.operands]; split <;> simp [hx])
    split
    · rename_i b hb
      simp only [resolve, hb]
      exact Sim.builtin hz (ARel.map hargs)
    · rename_i f hf
      simp only [resolve, hf]
      refine Sim.bind (TSim.ofValue (one (by simp [Op.operands, Call.operands, hf])) (ARel.map hargs)) fun _ _ _ _ hd => Sim.target hd
    · exact Sim.fail
  | move x => exact TSim.pure (.value (one (by simp [Op.operands])))
  | assign x => exact TSim.pure (.value (one (by simp [Op.operands])))
  | pick c a b =>
    refine TSim.bind (TSim.asBool (one (x := c) (by simp [Op.operands]))) ?_
    rintro m1 bb _ hl rfl
    refine TSim.pure (.value ?_)
    cases bb
    · exact VRel.mono hl (one (by simp [Op.operands]))
    · exact VRel.mono hl (one (by simp [Op.operands]))
  | alloc t =>
    simp only [vop]
    split
    · rename_i ht; exact TSim.asV (TSim.alloc hz ht)
    · exact Sim.fail
  | box t x => exact TSim.asV (TSim.box (one (by simp [Op.operands])))
  | build t ps =>
    simp only [vop]
    split
    · rename_i ht
      refine TSim.asV (TSim.build hz ht ?_)
      rw [Array.toList_map, Array.toList_map]
      exact PRel.map fun x hx => one (by simp only [Op.operands]; simp; exact ⟨_, by simpa using hx⟩)
    · exact Sim.fail
  | load t x => exact TSim.asV (TSim.loadAt (one (by simp [Op.operands])))
  | store t x y => exact TSim.asU (TSim.storeAt (one (by simp [Op.operands])) (one (by simp [Op.operands])))
  | nilCheck x =>
    simp only [vop, execOp]
    have hx := one (x := x) (by simp [Op.operands])
    revert hx
    generalize ρ x = v
    generalize ρ' x = v'
    intro hx
    cases hx with
    | ptr h => exact Sim.ret (.value (.ptr h))
    | func hf ha hc ia ic =>
      rename_i fn fn' _ _ _ _
      cases hf with
      | yield h => exact Sim.fail (n := 0)
      | same fn h =>
        cases fn with
        | func f => exact Sim.ret (.value (.func (.same _ h) ha hc ia ic))
        | _ => exact Sim.fail (n := 0)
    | iface h => exact Sim.ret (.value (.iface h))
    | _ => exact Sim.fail (n := 0)
  | makeInterface t x => exact TSim.asV (TSim.makeInterface (one (by simp [Op.operands])))
  | makeFunc f a b =>
    cases f with
    | func f =>
    have h1 : ARel T m (a.map ρ) (a.map ρ') := ARel.map fun x hx => one (by simp [Op.operands, hx])
    have h2 : ARel T m (b.map ρ) (b.map ρ') := ARel.map fun x hx => one (by simp [Op.operands, hx])
    exact TSim.asV (TSim.pure (.func (.same _ (by intro l h; cases h)) h1.size h2.size (fun i h h' => h1.at_ i h h') (fun i h h' => h2.at_ i h h')))
    | _ => exact Sim.fail (n := 0)
  | makeMap t r =>
    refine TSim.asV (TSim.makeMap ?_)
    cases r with
    | none => exact .inl ⟨rfl, rfl⟩
    | some x => exact .inr ⟨_, _, rfl, rfl, one (by simp [Op.operands])⟩
  | fieldAddr s x f => exact TSim.asV (TSim.fieldAt (one (by simp [Op.operands])) f)
  | field t x f => exact TSim.asV (TSim.field (one (by simp [Op.operands])) f)
  | indexAddr t x i => exact TSim.asV (TSim.indexAt (one (by simp [Op.operands])) (one (by simp [Op.operands])))
  | extract x i => exact TSim.asV (TSim.extract (one (by simp [Op.operands])) i)
  | _ => exact Sim.fail (n := 0)

end
end Vx
end

section
/- A virtual executor of the model's programs: a step of a region. Conditions: as for an operation. -/
set_option linter.unusedVariables false
set_option linter.unusedSimpArgs false
namespace Vx
open Go Go.RowKit

section
variable {P : Program} {T : Nat → Option Value} {w0 : World}

/-- Calls that the executor ran come to what it says. -/
def CallsOk (P : Program) (T : Nat → Option Value) (w0 : World) (ih : Task → VM Out) : Prop :=
  ∀ (f : FuncId) (args : Array Value) (s : VS) (v : Value) (s' : VS), ih (.call f args) s = some (.val v, s') → ∀ (m : Ren) (w : World) (args' : Array Value), ARel T m args args' → HR T w0 m s.g w →
    Calls P f args' w fun e w' => ∃ m' v', m.le m' ∧ e = .returned v' ∧ VRel T m' v v' ∧ HR T w0 m' s'.g w'

theorem undef_rel (m : Ren) : VRel T m undef undef := .tuple' (LRel.nil m)

theorem put_rel {m : Ren} {tmps : List Value} {a : Act} (h : LRel T m tmps a.tmps.toList) (dst : Option Tmp) {v v' : Value} (hv : VRel T m v v') : LRel T m (putT tmps dst v) (a.put dst v').tmps.toList := by
  cases dst with
  | none => exact h
  | some d =>
    simp only [putT, Act.put, Array.toList_setIfInBounds]
    exact h.set d hv

theorem put_defers (a : Act) (dst : Option Tmp) (v : Value) : (a.put dst v).defers = a.defers := by cases dst <;> rfl

theorem eval_rel {m : Ren} {tmps : List Value} {a : Act} (h : LRel T m tmps a.tmps.toList) {x : Operand} {v : Value} (hx : veval tmps x = some v) : VRel T m v (a.eval x) := by
  cases x with
  | tmp t =>
    simp only [veval, Option.some.injEq] at hx
    subst hx
    simp only [Act.eval]
    have hl : tmps.length = a.tmps.size := h.1
    rw [List.getD_eq_getElem?_getD, Array.getD_eq_getD_getElem?]
    by_cases ht : t < tmps.length
    · have ht' : t < a.tmps.size := hl ▸ ht
      rw [List.getElem?_eq_getElem ht, Array.getElem?_eq_getElem ht']
      exact h.2 t ht (by simpa using ht')
    · have ht' : ¬ t < a.tmps.size := hl ▸ ht
      rw [List.getElem?_eq_none (Nat.le_of_not_lt ht), Array.getElem?_eq_none (Nat.le_of_not_lt ht')]
      exact undef_rel m
  | const c =>
    simp only [veval] at hx
    split at hx
    · rename_i hs
      cases hx
      exact scal_refl 4 m hs
    · cases hx
  | global g => cases hx
  | func f =>
    cases hx
    exact .func (.same _ (by intro l h; cases h)) rfl rfl (fun i h _ => by simp at h) (fun i h _ => by simp at h)

theorem wanted_eq {m : Ren} {tmps : List Value} {a : Act} (h : LRel T m tmps a.tmps.toList) {ops : Array Oper} {o : Oper} {b : Bool} (hb : wantedB ops tmps o = some b) : Region.wanted o (yielded ops a.tmps) = b := by
  unfold wantedB at hb
  unfold Region.wanted
  cases hg : o.guard with
  | none => rw [hg] at hb; cases hb; rfl
  | some p =>
    obtain ⟨j, want⟩ := p
    rw [hg] at hb
    simp only at hb ⊢
    unfold yielded
    cases hd : (ops[j]?).bind (·.dst) with
    | none => rw [hd] at hb; cases hb; simp
    | some d =>
      rw [hd] at hb
      simp only [Option.bind_some] at hb ⊢
      have hl : tmps.length = a.tmps.size := h.1
      by_cases ht : d < tmps.length
      · have ht' : d < a.tmps.size := hl ▸ ht
        rw [List.getElem?_eq_getElem ht] at hb
        rw [Array.getElem?_eq_getElem ht']
        have hv : VRel T m tmps[d] a.tmps[d] := h.2 d ht (by simpa using ht')
        generalize tmps[d] = v at hv hb
        generalize a.tmps[d] = v' at hv
        cases hv <;> first | (cases hb; rfl) | (cases hb; done) | skip
        all_goals (simp only [Option.some.injEq] at hb; subst hb; first | rfl | (rename_i b; cases b <;> cases want <;> rfl))
      · rw [List.getElem?_eq_none (Nat.le_of_not_lt ht)] at hb
        rw [Array.getElem?_eq_none (Nat.le_of_not_lt (hl ▸ ht))]
        cases hb
        simp

/-- One operation of a region, in the model. -/
theorem step_wp {orc : Orc} (hz : ZeroOk P) (ho : OrcOk P T orc) {ih : Task → VM Out} (hi : CallsOk P T w0 ih) {ops : Array Oper} {o : Oper} {i : Nat} (hoi : ops[i]? = some o)
    {tmps tmps' : List Value} {s s' : VS} (hs : vstep P orc ih ops o tmps s = some (tmps', s')) {m : Ren} {a : Act} {w : World} (ht : LRel T m tmps a.tmps.toList) (hw : HR T w0 m s.g w)
    {Q : Exit → Act → World → Prop} {K : Act → World → Prop} (hk : ∀ m' a' w', m.le m' → LRel T m' tmps' a'.tmps.toList → a'.defers = a.defers → HR T w0 m' s'.g w' → K a' w') : wpOp P ops Q i K a w := by
  unfold wpOp
  rw [hoi]
  simp only
  unfold vstep at hs
  cases hb : wantedB ops tmps o with
  | none => rw [hb] at hs; exact (fail_some hs).elim
  | some b =>
    rw [hb] at hs
    rw [wanted_eq ht hb]
    cases b with
    | false =>
      obtain ⟨rfl, rfl⟩ := ret_some hs
      simp only [Bool.false_eq_true, if_false]
      exact hk m _ _ (Ren.le_refl m) (put_rel ht o.dst (undef_rel m)) (put_defers _ _ _) hw
    | true =>
      simp only [if_true]
      refine .inl ?_
      dsimp only at hs
      split at hs
      · rename_i hall
        obtain ⟨nx, s1, h1, h2⟩ := bind_some hs
        have hρ : ∀ x ∈ o.op.operands, VRel T m ((veval tmps x).getD undef) (a.eval x) := by
          intro x hx
          have := List.all_eq_true.1 hall x (by simpa using hx)
          unfold okOperand at this
          cases hv : veval tmps x with
          | none => rw [hv] at this; cases this
          | some v => exact eval_rel ht hv
        obtain ⟨m1, nx', w1, hl, hrun, hrel, hw1⟩ := Sim.op hz ho (w0 := w0) hρ s nx s1 w h1 hw
        unfold Oper.wp
        rw [hrun]
        have ht1 := LRel.mono hl ht
        cases hrel with
        | value hv =>
          rw [Oper.upon_value]
          obtain ⟨rfl, rfl⟩ := ret_some h2
          exact hk m1 _ _ hl (put_rel ht1 o.dst hv) (put_defers _ _ _) hw1
        | skip =>
          rw [Oper.upon_skip]
          obtain ⟨rfl, rfl⟩ := ret_some h2
          exact hk m1 _ _ hl (put_rel ht1 o.dst (undef_rel m1)) (put_defers _ _ _) hw1
        | enter ha =>
          rw [Oper.upon_enter]
          obtain ⟨out, s2, h3, h4⟩ := bind_some h2
          cases out with
          | fin _ _ => exact (fail_some h4).elim
          | val v =>
            obtain ⟨rfl, rfl⟩ := ret_some h4
            refine Calls.mono (hi _ _ _ _ _ h3 m1 w1 _ ha hw1) ?_
            rintro e w2 ⟨m2, v2, hl2, rfl, hv2, hw2⟩
            exact hk m2 _ _ (Ren.le_trans hl hl2) (put_rel (LRel.mono hl2 ht1) o.dst hv2) (put_defers _ _ _) hw2
        | recover => exact (fail_some h2).elim
        | round hl h => exact (fail_some h2).elim
        | defer h => exact (fail_some h2).elim
      · exact (fail_some hs).elim

end
end Vx
end
