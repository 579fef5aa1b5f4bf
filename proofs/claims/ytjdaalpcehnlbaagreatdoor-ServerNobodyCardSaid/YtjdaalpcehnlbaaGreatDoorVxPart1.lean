/- A virtual executor of the model's programs, part 2 of 4. Conditions: as each section says. -/
import Derived.Test.YtjdaalpcehnlbaaGreatDoorVxPart0
import Derived.Laws.MakeOwn
import Derived.Laws.BytesArg
import Derived.IntWalk
import Derived.Laws.Slices
import Derived.Laws.Append

section
/- A virtual executor of the model's programs: the judgement that a virtual run stands for the model's, and its laws for the plain operations on memory. Conditions: none. -/
namespace Vx
open Go Go.RowKit

section
variable (P : Program) (T : Nat → Option Value) (w0 : World)

/-- A virtual run stands for one of the model's. -/
def Sim {α β : Type} (R : Ren → α → β → Prop) (m : Ren) (x : VM α) (t : Sem β) : Prop :=
  ∀ s a s' w, x s = some (a, s') → HR T w0 m s.g w → ∃ m' b w', m.le m' ∧ t.run P w = .ok b w' ∧ R m' a b ∧ HR T w0 m' s'.g w'

/-- Likewise, of the model's own text. -/
def TSim {α β : Type} (R : Ren → α → β → Prop) (m : Ren) (t : Sem α) (t' : Sem β) : Prop := Sim P T w0 R m (vsem P t) t'
end

def EqR {α : Type} : Ren → α → α → Prop := fun _ a b => a = b

section
variable {P : Program} {T : Nat → Option Value} {w0 : World}

theorem vsem_bind {α β : Type} (t : Sem α) (f : α → Sem β) : vsem P (t.bind f) = VM.bind (vsem P t) fun a => vsem P (f a) := by
  have assoc : ∀ {α β γ : Type} (x : VM α) (f : α → VM β) (g : β → VM γ), VM.bind (VM.bind x f) g = VM.bind x fun a => VM.bind (f a) g := by
    intro α β γ x f g
    funext s
    simp only [VM.bind]
    cases x s with
    | none => rfl
    | some p => rfl
  have hfail : ∀ {α β : Type} (n : Nat) (f : α → VM β), VM.bind (VM.fail n) f = VM.fail n := fun _ _ => rfl
  have hfail' : ∀ {α : Type} (n k : Nat), (VM.fail n : VM α) = VM.fail k := fun _ _ => rfl
  induction t with
  | pure a => rfl
  | load md a k ih => simp only [Sem.bind, vsem, ih, assoc]
  | store md a v k ih => cases v <;> simp only [Sem.bind, vsem, ih, assoc] <;> rfl
  | new o k ih =>
    cases o <;> simp only [Sem.bind, vsem, ih, assoc] <;> first | rfl | (split <;> first | rfl | simp only [assoc])
  | shape r k ih => rfl
  | freeze a n k ih => rfl
  | frozen a k ih => rfl
  | getObj r k ih =>
    simp only [Sem.bind, vsem, assoc]
    congr 1
    funext o
    cases o <;> simp only [ih] <;> rfl
  | setObj r o k ih =>
    simp only [Sem.bind, vsem, assoc]
    congr 1
    funext o
    cases o <;> simp only [ih, assoc] <;> rfl
  | choose q k ih => simp only [Sem.bind, vsem]; split <;> first | exact ih _ | rfl
  | sys c k ih => rfl
  | program k ih => simp only [Sem.bind, vsem, ih]
  | mark md k ih => simp only [Sem.bind, vsem, ih]
  | halt h => rfl

theorem vsem_bind' {α β : Type} (t : Sem α) (f : α → Sem β) : vsem P (t >>= f) = VM.bind (vsem P t) fun a => vsem P (f a) := vsem_bind t f

theorem Sim.weaken {α β : Type} {R R' : Ren → α → β → Prop} {m : Ren} {x : VM α} {t : Sem β} (h : Sim P T w0 R m x t) (k : ∀ m' a b, m.le m' → R m' a b → R' m' a b) : Sim P T w0 R' m x t := by
  intro s a s' w hx hw
  obtain ⟨m', b, w', h1, h2, h3, h4⟩ := h s a s' w hx hw
  exact ⟨m', b, w', h1, h2, k _ _ _ h1 h3, h4⟩

theorem Sim.bind {α β γ δ : Type} {Q : Ren → α → β → Prop} {R : Ren → γ → δ → Prop} {m : Ren} {x : VM α} {t : Sem β} {f : α → VM γ} {k : β → Sem δ}
    (h : Sim P T w0 Q m x t) (hk : ∀ m' a b, m.le m' → Q m' a b → Sim P T w0 R m' (f a) (k b)) : Sim P T w0 R m (VM.bind x f) (t >>= k) := by
  intro s a s' w hx hw
  obtain ⟨a1, s1, h1, h2⟩ := bind_some hx
  obtain ⟨m1, b1, w1, l1, r1, q1, g1⟩ := h s a1 s1 w h1 hw
  obtain ⟨m2, b2, w2, l2, r2, q2, g2⟩ := hk m1 a1 b1 l1 q1 s1 a s' w1 h2 g1
  exact ⟨m2, b2, w2, Ren.le_trans l1 l2, by rw [Sem.run_bind, r1]; exact r2, q2, g2⟩

theorem Sim.ret {α β : Type} {R : Ren → α → β → Prop} {m : Ren} {a : α} {b : β} (h : R m a b) : Sim P T w0 R m (VM.ret a) (pure b) := by
  intro s a' s' w hx hw
  obtain ⟨rfl, rfl⟩ := ret_some hx
  exact ⟨m, b, w, Ren.le_refl m, rfl, h, hw⟩

theorem Sim.fail {α β : Type} {R : Ren → α → β → Prop} {m : Ren} {n : Nat} {t : Sem β} : Sim P T w0 R m (VM.fail n) t := fun _ _ _ _ hx _ => (fail_some hx).elim

/-- A virtual step that the model doesn't take. -/
theorem Sim.alone {α γ δ : Type} {R : Ren → γ → δ → Prop} {m : Ren} {x : Option α} {f : α → VM γ} {t : Sem δ} (h : ∀ a, x = some a → Sim P T w0 R m (f a) t) : Sim P T w0 R m (VM.bind (lift x) f) t := by
  intro s a s' w hx hw
  obtain ⟨a1, s1, h1, h2⟩ := bind_some hx
  obtain ⟨h3, h4⟩ := lift_some h1
  subst h4
  exact h a1 h3 s a s' w h2 hw

/-- A step of the model's that the virtual run doesn't take. -/
theorem Sim.aside {α β γ : Type} {R : Ren → α → β → Prop} {m : Ren} {x : VM α} {t : Sem γ} {c : γ} {k : γ → Sem β} (h : ∀ w, t.run P w = .ok c w) (hk : Sim P T w0 R m x (k c)) : Sim P T w0 R m x (t >>= k) := by
  intro s a s' w hx hw
  obtain ⟨m', b, w', h1, h2, h3, h4⟩ := hk s a s' w hx hw
  exact ⟨m', b, w', h1, by rw [Sem.run_bind, h w]; exact h2, h3, h4⟩

theorem TSim.bind {α β γ δ : Type} {Q : Ren → α → β → Prop} {R : Ren → γ → δ → Prop} {m : Ren} {t : Sem α} {t' : Sem β} {f : α → Sem γ} {k : β → Sem δ}
    (h : TSim P T w0 Q m t t') (hk : ∀ m' a b, m.le m' → Q m' a b → TSim P T w0 R m' (f a) (k b)) : TSim P T w0 R m (t >>= f) (t' >>= k) := by
  unfold TSim
  rw [vsem_bind']
  exact Sim.bind h hk
theorem TSim.map {α β γ δ : Type} {Q : Ren → α → β → Prop} {R : Ren → γ → δ → Prop} {m : Ren} {t : Sem α} {t' : Sem β} {f : α → γ} {k : β → δ}
    (h : TSim P T w0 Q m t t') (hk : ∀ m' a b, m.le m' → Q m' a b → R m' (f a) (k b)) : TSim P T w0 R m (f <$> t) (k <$> t') := by
  rw [← bind_pure_comp, ← bind_pure_comp]
  exact TSim.bind h fun m' a b hl hq => Sim.ret (hk m' a b hl hq)
theorem TSim.pure {α β : Type} {R : Ren → α → β → Prop} {m : Ren} {a : α} {b : β} (h : R m a b) : TSim P T w0 R m (Pure.pure a) (Pure.pure b) := Sim.ret h
theorem TSim.halt {α β : Type} {R : Ren → α → β → Prop} {m : Ren} {h : Halt} {t : Sem β} : TSim P T w0 R m (.halt h : Sem α) t := Sim.fail (n := 17)
theorem TSim.stuck {α β : Type} {R : Ren → α → β → Prop} {m : Ren} {h : String} {t : Sem β} : TSim P T w0 R m (Go.stuck h : Sem α) t := TSim.halt
theorem TSim.unsupported {α β : Type} {R : Ren → α → β → Prop} {m : Ren} {h : Unsupported} {t : Sem β} : TSim P T w0 R m (Go.unsupported h : Sem α) t := TSim.halt
theorem bind_none {α β : Type} {x : VM α} {f : α → VM β} {s : VS} (h : ∀ a s', x s = some (a, s') → f a s' = none) : VM.bind x f s = none := by
  unfold VM.bind
  cases hx : x s with
  | none => rfl
  | some p => exact h p.1 p.2 hx
theorem rpanic_none {α : Type} (e : RuntimeError) (s : VS) : vsem P (runtimePanic e : Sem α) s = none := by
  have hp : ∀ (v : Value) (s : VS), vsem P (goPanic v : Sem α) s = none := fun _ _ => rfl
  unfold runtimePanic
  rw [vsem_bind']
  refine bind_none fun p s1 h1 => ?_
  cases e <;> simp only <;> first
    | exact hp _ _
    | (rw [vsem_bind']; refine bind_none fun _ _ _ => ?_; first | exact hp _ _ | (rw [vsem_bind']; exact bind_none fun _ _ _ => hp _ _))
theorem bpanic_none {α : Type} (k : IntKind) (x y : Int) (c : BoundsCode) (s : VS) : vsem P (boundsPanic k x y c : Sem α) s = none := by
  unfold boundsPanic
  simp only []
  split
  · rw [vsem_bind']; exact bind_none fun _ _ _ => rpanic_none _ _
  · rw [vsem_bind']; exact bind_none fun _ _ _ => rpanic_none _ _
theorem TSim.rpanic {α β : Type} {R : Ren → α → β → Prop} {m : Ren} {e : RuntimeError} {t : Sem β} : TSim P T w0 R m (runtimePanic e : Sem α) t := by
  intro s a s' w hx
  rw [rpanic_none] at hx
  cases hx
theorem TSim.bpanic {α β : Type} {R : Ren → α → β → Prop} {m : Ren} {k : IntKind} {x y : Int} {c : BoundsCode} {t : Sem β} : TSim P T w0 R m (boundsPanic k x y c : Sem α) t := by
  intro s a s' w hx
  rw [bpanic_none] at hx
  cases hx

/-! ### The program's tables -/
theorem TSim.program {m : Ren} : TSim P T w0 EqR m program program := by
  intro s a s' w hx hw
  obtain ⟨rfl, rfl⟩ := ret_some hx
  exact ⟨m, P, w, Ren.le_refl m, rfl, rfl, hw⟩
theorem TSim.typeInfo {m : Ren} {t : TypeId} : TSim P T w0 EqR m (typeInfo t) (typeInfo t) := by
  unfold Go.typeInfo
  refine TSim.bind TSim.program ?_
  rintro m' p _ _ rfl
  split
  · exact TSim.pure rfl
  · exact TSim.stuck
theorem TSim.underlying {m : Ren} {t : TypeId} : TSim P T w0 EqR m (underlying t) (underlying t) := by
  unfold Go.underlying
  refine TSim.bind TSim.program ?_
  rintro m' p _ _ rfl
  split
  · exact TSim.pure rfl
  · exact TSim.stuck
theorem TSim.sizeOf {m : Ren} {t : TypeId} : TSim P T w0 EqR m (Go.sizeOf t) (Go.sizeOf t) := by
  unfold Go.sizeOf
  refine TSim.bind TSim.typeInfo ?_
  rintro m' i _ _ rfl
  exact TSim.pure rfl
theorem TSim.zeroValue {m : Ren} {t : TypeId} : TSim P T w0 EqR m (Go.zeroValue t) (Go.zeroValue t) := by
  unfold Go.zeroValue
  refine TSim.bind TSim.typeInfo ?_
  rintro m' i _ _ rfl
  split
  · exact TSim.pure rfl
  · exact TSim.unsupported
theorem TSim.isAgg {m : Ren} {t : TypeId} : TSim P T w0 EqR m (Go.isAgg t) (Go.isAgg t) := by
  unfold Go.isAgg
  refine TSim.bind TSim.underlying ?_
  rintro m' i _ _ rfl
  split <;> exact TSim.pure rfl

/-! ### Reading and writing -/
/-- Addresses. -/
def AdR (T : Nat → Option Value) (m : Ren) (a a' : Addr) : Prop := VRel T m (.pointer (some a)) (.pointer (some a'))
theorem AdR.cases {m : Ren} {a a' : Addr} (h : AdR T m a a') : ∃ r off b o e, m r = some (b, o, e) ∧ a = ⟨r, off, none⟩ ∧ a' = ⟨b, o + off, none⟩ := by
  cases h with
  | ptr hr => exact ⟨_, _, _, _, _, hr, rfl, rfl⟩
theorem AdR.mk {m : Ren} {r off b o e : Nat} (h : m r = some (b, o, e)) : AdR T m ⟨r, off, none⟩ ⟨b, o + off, none⟩ := .ptr h
theorem AdR.mono {m m' : Ren} (h : m.le m') {a a' : Addr} (r : AdR T m a a') : AdR T m' a a' := VRel.mono h r
theorem add_lit (b o n : Nat) : Addr.add ⟨b, o, none⟩ n = ⟨b, o + n, none⟩ := Addr.add_lit b o n
theorem AdR.add {m : Ren} {a a' : Addr} (h : AdR T m a a') (n : Nat) : AdR T m (a.add n) (a'.add n) := by
  obtain ⟨r, off, b, o, e, hr, rfl, rfl⟩ := h.cases
  rw [add_lit, add_lit, Nat.add_assoc]
  exact .mk hr

theorem rdCell_some {a : Addr} {v : Value} {s s' : VS} (h : rdCell a s = some (v, s')) : ∃ cs e f st, s.g a.block = some (.row cs e f st) ∧ cs[a.off]? = some v ∧ a.spot = none ∧ s'.g = s.g := by
  obtain ⟨o, s1, h1, h2⟩ := bind_some h
  obtain ⟨h3, h4⟩ := rd_some h1
  cases o with
  | row cs e f st =>
    simp only at h2
    split at h2
    · exact (fail_some h2).elim
    · rename_i hsp
      obtain ⟨h5, rfl⟩ := lift_some h2
      exact ⟨cs, e, f, st, h3, h5, by cases hx : a.spot <;> simp_all, h4⟩
  | obj _ => exact (fail_some h2).elim
  | fam _ => exact (fail_some h2).elim
  | dead => exact (fail_some h2).elim

theorem TSim.load {m : Ren} {a a' : Addr} {md : Mode} (h : AdR T m a a') : TSim P T w0 (VRel T) m (Go.load a md) (Go.load a' md) := by
  intro s v s' w hx hw
  obtain ⟨r, off, b, o, e, hr, rfl, rfl⟩ := h.cases
  obtain ⟨v1, s1, h1, h2⟩ := bind_some hx
  obtain ⟨rfl, rfl⟩ := ret_some h2
  obtain ⟨cs, el, f, st, g1, g2, _, g4⟩ := rdCell_some h1
  obtain ⟨v', c1, c2⟩ := hw.cell g1 hr g2
  exact ⟨m, v', w, Ren.le_refl m, by rw [run_load, c1], c2, by rw [g4]; exact hw⟩

theorem plain_oneCell {v : Value} : plainV v = v.oneCell' := by cases v <;> rfl

theorem wrCell_some {a : Addr} {v : Value} {u : Unit} {s s' : VS} {m : Ren} {w : World} (hx : wrCell a v s = some (u, s')) (hw : HR T w0 m s.g w) : ∃ cs e f st g1, s.g a.block = some (.row cs e f st) ∧ a.off < cs.length ∧ a.spot = none ∧
    g1 a.block = some (.row cs e f st) ∧ HR T w0 m g1 w ∧ (∀ r' cs' e' st', r' ≠ a.block → f ≠ 0 → g1 r' = some (.row cs' e' f st') → st' + cs'.length ≤ st + a.off ∨ st + a.off < st') ∧
    s'.g = upd g1 a.block (.row (cs.set a.off v) e f st) := by
  obtain ⟨ob, s1, h1, h2⟩ := bind_some hx
  obtain ⟨h3, h4⟩ := rd_some h1
  cases ob with
  | row cs e f st =>
    simp only at h2
    split at h2
    · exact (fail_some h2).elim
    · rename_i hsp
      have hsp' : a.spot = none := by cases hx : a.spot <;> simp_all
      split at h2
      · rename_i hoff
        obtain ⟨_, s2, h5, h6⟩ := bind_some h2
        have h7 := (wr_some h6).2
        by_cases hf : f = 0
        · rw [if_pos hf] at h5
          obtain ⟨_, rfl⟩ := ret_some h5
          refine ⟨cs, e, f, st, s1.g, h3, hoff, hsp', by rw [h4]; exact h3, by rw [h4]; exact hw, fun _ _ _ _ _ hf' => absurd hf hf', h7⟩
        · rw [if_neg hf] at h5
          obtain ⟨k1, k2, k3, k4, k5, k6, _⟩ := kill_keeps h5 (by rw [h4]; exact hw)
          rw [h4] at k2 k5 k6
          have hstay : s2.g a.block = some (.row cs e f st) := k6 _ _ _ _ hf h3 (by simp)
          refine ⟨cs, e, f, st, s2.g, h3, hoff, hsp', hstay, k1, fun r' cs' e' st' hne _ hr' => ?_, h7⟩
          have := k4 _ _ _ _ hf hr'
          simp [hne] at this
          omega
      · exact (fail_some h2).elim
  | obj _ => exact (fail_some h2).elim
  | fam _ => exact (fail_some h2).elim
  | dead => exact (fail_some h2).elim

theorem TSim.store {m : Ren} {a a' : Addr} {v v' : Value} {md : Mode} (h : AdR T m a a') (hv : VRel T m v v') : TSim P T w0 EqR m (Go.store a v md) (Go.store a' v' md) := by
  intro s u s' w hx hw
  obtain ⟨r, off, b, o, e, hr, rfl, rfl⟩ := h.cases
  have hpl : plainV v = true := by cases v <;> first | rfl | exact (fail_some hx).elim
  have hx' : VM.bind (wrCell ⟨r, off, none⟩ v) (fun _ => VM.ret ()) s = some (u, s') := by cases v <;> first | exact hx | (simp [plainV] at hpl)
  obtain ⟨_, s1, h1, h2⟩ := bind_some hx'
  obtain ⟨rfl, rfl⟩ := ret_some h2
  obtain ⟨cs, el, f, st, g1, k1, k2, _, k3, k4, k5, k6⟩ := wrCell_some h1 hw
  obtain ⟨u', c1, c2⟩ := hw.cell k1 hr (List.getElem?_eq_getElem k2)
  have hrow := hw.rows _ _ _ _ _ k1
  have hroom : o + off < e := by
    obtain ⟨b1, o1, l1, c, E, lo, hi, q1, q2, q3, _⟩ := hrow
    rw [hr] at q1
    cases q1
    simp only at k2
    omega
  have hfz := hw.unfrozen k1 hr (Nat.le_add_right o off) hroom
  obtain ⟨e1, e2⟩ := wrote_setCell (v := v') c1
  refine ⟨m, (), w.setCell ⟨b, o + off, none⟩ v', Ren.le_refl m, ?_, rfl, ?_⟩
  · rw [run_store _ _ _ _ _ (by rw [← plain_oneCell, ← hv.plain]; exact hpl), c1]
    simp [hfz]
  · rw [k6]
    exact k4.wroteCell k3 hr k2 hv e1 e2 k5

end
end Vx
end

section
/- A virtual executor of the model's programs: the operations whose text is the model's own. Conditions: none. -/
namespace Vx
open Go Go.RowKit

section
variable {P : Program} {T : Nat → Option Value} {w0 : World}

theorem HR.newSolo {m : Ren} {g : Hp} {w : World} (h : HR T w0 m g w) {k : Nat} {e : TypeId} {c c' : Array Value} (hk : g k = none) (hc : ARel T m c c') :
    HR T w0 (m.put k (w.heap.size, 0, c'.size)) (upd g k (.row c.toList e 0 0)) { w with heap := w.heap.push (.cells c' e) } := by
  have hs := hc.size
  refine h.newCells (lo := 0) (hi := 0) (st := 0) (e := e) (f := 0) hk rfl rfl rfl rfl (by simp [hs]) (fun i v hv => ?_) (fun j _ => by omega) (fun _ => ⟨by simp [hs], rfl⟩) (upd_same _ _ _) (fun r hr => ?_) ?_
  · obtain ⟨v', a, b⟩ := LRel.get? hc hv
    exact ⟨v', by simpa using a, b⟩
  · rw [upd_other _ _ hr]; exact ⟨fun _ _ _ _ h => h, fun _ h => h, fun h => h⟩
  · intro r cs e' f st hr hf
    have hrk : r ≠ k := by intro e; subst e; rw [upd_same] at hr; cases hr; exact hf rfl
    rw [upd_other _ _ hrk] at hr
    obtain ⟨l, hl, hmem⟩ := h.fams _ _ _ _ _ hr hf
    exact ⟨l, by rw [upd_other _ _ (by intro e; subst e; rw [hk] at hl; cases hl)]; exact hl, hmem⟩

theorem TSim.newRow {m : Ren} {t : TypeId} {c c' : Array Value} (h : ARel T m c c') : TSim P T w0 (AdR T) m (newRow t c) (newRow t c') := by
  intro s a s' w hx hw
  unfold Go.newRow at hx
  rw [vsem_bind'] at hx
  obtain ⟨k, s1, h1, h2⟩ := bind_some hx
  obtain ⟨rfl, rfl⟩ := ret_some h2
  simp only [newObj, vsem, if_true] at h1
  obtain ⟨k1, s2, h3, h4⟩ := bind_some h1
  obtain ⟨rfl, rfl⟩ := ret_some h4
  obtain ⟨g1, g2⟩ := nw_some h3
  refine ⟨m.put k1 (w.heap.size, 0, c'.size), ⟨w.heap.size, 0, none⟩, { w with heap := w.heap.push (.cells c' t) }, Ren.le_put _ ?_, rfl, ?_, ?_⟩
  · cases hm : m k1 with
    | none => rfl
    | some x => exact absurd g1 (hw.dom _ _ hm)
  · exact .mk (put_same _ _ _)
  · rw [g2]; exact hw.newSolo g1 h
theorem TSim.newVar {m : Ren} {t : TypeId} {v v' : Value} (h : VRel T m v v') : TSim P T w0 (AdR T) m (newVar t v) (newVar t v') := TSim.newRow h.cells

theorem ARel.push {m : Ren} {a a' : Array Value} {v v' : Value} (h : ARel T m a a') (hv : VRel T m v v') : ARel T m (a.push v) (a'.push v') := by
  unfold ARel
  rw [Array.toList_push, Array.toList_push]
  exact LRel.append h (LRel.cons hv (LRel.nil m))
theorem ARel.empty (m : Ren) : ARel T m #[] #[] := LRel.nil m
theorem ARel.append {m : Ren} {a a' b b' : Array Value} (h : ARel T m a a') (k : ARel T m b b') : ARel T m (a ++ b) (a' ++ b') := by
  unfold ARel
  rw [Array.toList_append, Array.toList_append]
  exact LRel.append h k

theorem TSim.loadCellsFrom {a a' : Addr} (n : Nat) : ∀ {m : Ren} (i : Nat) {acc acc' : Array Value}, AdR T m a a' → ARel T m acc acc' →
    TSim P T w0 (ARel T) m (loadCellsFrom a i n acc) (loadCellsFrom a' i n acc') := by
  induction n with
  | zero => intro m i acc acc' ha hacc; exact TSim.pure hacc
  | succ n ih =>
    intro m i acc acc' ha hacc
    unfold Go.loadCellsFrom
    refine TSim.bind (TSim.load (ha.add i)) fun m' v v' hl hv => ?_
    exact ih (i + 1) (ha.mono hl) ((hacc.mono hl).push hv)
theorem TSim.loadCells {m : Ren} {a a' : Addr} (h : AdR T m a a') (n : Nat) : TSim P T w0 (ARel T) m (loadCells a n) (loadCells a' n) := TSim.loadCellsFrom n 0 h (ARel.empty m)
theorem TSim.loadVar {m : Ren} {t : TypeId} {a a' : Addr} (h : AdR T m a a') : TSim P T w0 (VRel T) m (loadVar t a) (loadVar t a') := by
  unfold Go.loadVar
  refine TSim.bind TSim.isAgg ?_
  rintro m1 b _ hl rfl
  split
  · refine TSim.bind TSim.sizeOf ?_
    rintro m2 n _ hl2 rfl
    refine TSim.bind (TSim.loadCells ((h.mono hl).mono hl2) n) fun m3 c c' _ hc => ?_
    exact TSim.pure (.agg' hc)
  · exact TSim.load (h.mono hl)
theorem TSim.storeCells {a a' : Addr} : ∀ (l : List Value) {m : Ren} {l' : List Value} (i : Nat), AdR T m a a' → LRel T m l l' → TSim P T w0 EqR m (storeCells a l i) (storeCells a' l' i) := by
  intro l
  induction l with
  | nil =>
    intro m l' i ha hl
    cases l' with
    | nil => exact TSim.pure rfl
    | cons _ _ => exact absurd hl.1 (by simp)
  | cons v l ih =>
    intro m l' i ha hl
    cases l' with
    | nil => exact absurd hl.1 (by simp)
    | cons v' l' =>
      unfold Go.storeCells
      refine TSim.bind (TSim.store (ha.add i) hl.head) fun m' _ _ hm _ => ?_
      exact ih (i + 1) (ha.mono hm) (hl.tail.mono hm)
theorem TSim.storeVar {m : Ren} {t : TypeId} {a a' : Addr} {v v' : Value} (h : AdR T m a a') (hv : VRel T m v v') : TSim P T w0 EqR m (storeVar t a v) (storeVar t a' v') := by
  unfold Go.storeVar
  have hs := hv.cells.size
  simp only [hs]
  refine TSim.bind TSim.sizeOf ?_
  rintro m1 n _ hl rfl
  split
  · exact TSim.bind (Q := EqR) TSim.stuck fun m2 _ _ hm _ => TSim.storeCells _ 0 ((h.mono hl).mono hm) ((LRel.mono hl hv.cells).mono hm)
  · exact TSim.storeCells _ 0 (h.mono hl) (LRel.mono hl hv.cells)

/-! ### What an operation comes to -/
inductive NRel (T : Nat → Option Value) (m : Ren) : Next → Next → Prop
  | value {v v' : Value} (h : VRel T m v v') : NRel T m (.value v) (.value v')
  | skip : NRel T m .skip .skip
  | recover : NRel T m .recover .recover
  | enter {f : FuncId} {a a' : Array Value} (h : ARel T m a a') : NRel T m (.enter f a) (.enter f a')
  | round {l b o e : Nat} {f : FuncId} {ts ts' : Array Value} {asg body : Code} (hl : m l = some (b, o, e)) (h : ARel T m ts ts') : NRel T m (.round l f ts asg body) (.round b f ts' asg body)
  | defer {d d' : Deferred} (h : DefRel T m d d') : NRel T m (.defer d) (.defer d')

theorem TSim.asV {m : Ren} {t t' : Sem Value} (h : TSim P T w0 (VRel T) m t t') : TSim P T w0 (NRel T) m (do Pure.pure (Next.value (← t))) (do Pure.pure (Next.value (← t'))) :=
  TSim.bind h fun _ _ _ _ hv => TSim.pure (.value hv)
theorem TSim.asU {m : Ren} {t t' : Sem Unit} (h : TSim P T w0 EqR m t t') : TSim P T w0 (NRel T) m (do t; Pure.pure Next.skip) (do t'; Pure.pure Next.skip) :=
  TSim.bind h fun _ _ _ _ _ => TSim.pure .skip

theorem TSim.asBool {m : Ren} {v v' : Value} (h : VRel T m v v') : TSim P T w0 EqR m (asBool v) (asBool v') := by
  cases h <;> first | exact TSim.pure rfl | exact TSim.stuck
theorem TSim.asIntOf {m : Ren} {v v' : Value} (h : VRel T m v v') : TSim P T w0 EqR m (asIntOf v) (asIntOf v') := by
  cases h <;> first | exact TSim.pure rfl | exact TSim.stuck | exact TSim.unsupported
theorem TSim.asInt {m : Ren} {v v' : Value} (h : VRel T m v v') : TSim P T w0 EqR m (asInt v) (asInt v') := by
  unfold Go.asInt
  refine TSim.bind (TSim.asIntOf h) ?_
  rintro _ _ _ _ rfl
  exact TSim.pure rfl
theorem TSim.asAgg {m : Ren} {v v' : Value} (h : VRel T m v v') : TSim P T w0 (ARel T) m (asAgg v) (asAgg v') := by
  cases h <;> first | exact TSim.stuck | skip
  rename_i c c' hc ic
  exact TSim.pure (ARel.mk' hc ic)
theorem TSim.asAddr {m : Ren} {v v' : Value} (h : VRel T m v v') : TSim P T w0 (AdR T) m (asAddr v) (asAddr v') := by
  cases h with
  | ptr h => exact TSim.pure (AdR.mk h)
  | nilptr => exact (TSim.rpanic : TSim P T w0 (AdR T) m (runtimePanic .nilDeref) (runtimePanic .nilDeref))
  | _ => exact TSim.stuck
theorem TSim.sureAddr {m : Ren} {v v' : Value} (h : VRel T m v v') : TSim P T w0 (AdR T) m (Instr.sureAddr v) (Instr.sureAddr v') := by
  cases h with
  | ptr h => exact TSim.pure (AdR.mk h)
  | _ => exact TSim.stuck

theorem ARel.extract {m : Ren} {a a' : Array Value} (h : ARel T m a a') (i j : Nat) : ARel T m (a.extract i j) (a'.extract i j) := by
  unfold ARel
  rw [Array.toList_extract, Array.toList_extract]
  simp only [List.extract_eq_take_drop]
  exact (LRel.drop h i).take _

theorem TSim.part {m : Ren} {t : TypeId} {c c' : Array Value} (h : ARel T m c c') (off : Nat) : TSim P T w0 (VRel T) m (part t c off) (part t c' off) := by
  unfold Go.part
  refine TSim.bind TSim.isAgg ?_
  rintro m1 b _ hl rfl
  split
  · refine TSim.bind TSim.sizeOf ?_
    rintro m2 n _ hl2 rfl
    exact TSim.pure (.agg' (((h.mono hl).mono hl2).extract _ _))
  · cases hc : c[off]? with
    | none => exact TSim.stuck
    | some v =>
      obtain ⟨v', a, b⟩ := h.get? hc
      simp only [a]
      exact TSim.pure (b.mono hl)

theorem TSim.field {m : Ren} {t : TypeId} {v v' : Value} (h : VRel T m v v') (i : Nat) : TSim P T w0 (VRel T) m (Instr.field t v i) (Instr.field t v' i) := by
  unfold Instr.field
  refine TSim.bind TSim.underlying ?_
  rintro m1 d _ hl rfl
  cases d <;> first | exact TSim.stuck | skip
  rename_i fields
  simp only
  split
  · refine TSim.bind (TSim.asAgg (h.mono hl)) fun m2 c c' _ hc => ?_
    exact TSim.part hc _
  · exact TSim.stuck

theorem TSim.extract {m : Ren} {v v' : Value} (h : VRel T m v v') (i : Nat) : TSim P T w0 (VRel T) m (Instr.extract v i) (Instr.extract v' i) := by
  cases h <;> first | exact TSim.stuck | skip
  rename_i c c' hc ic
  unfold Instr.extract
  simp only
  have hA : ARel T m c c' := .mk' hc ic
  cases hx : c[i]? with
  | none => exact TSim.stuck
  | some v =>
    obtain ⟨v', a, b⟩ := hA.get? hx
    simp only [a]
    exact TSim.pure b

theorem TSim.index {m : Ren} {t : TypeId} {v v' x x' : Value} (h : VRel T m v v') (hx : VRel T m x x') : TSim P T w0 (VRel T) m (Instr.index t v x) (Instr.index t v' x') := by
  unfold Instr.index
  refine TSim.bind (TSim.asIntOf hx) ?_
  rintro m1 ⟨k, i⟩ _ hl rfl
  refine TSim.bind TSim.underlying ?_
  rintro m2 d _ hl2 rfl
  have h2 := (h.mono hl).mono hl2
  cases d <;> first | exact TSim.stuck | skip
  · cases h2 <;> first | exact TSim.stuck | skip
    simp only
    split
    · exact TSim.pure (.int _ _)
    · exact TSim.bpanic
  · cases h2 <;> first | exact TSim.stuck | skip
    rename_i c c' hc ic
    simp only
    split
    · refine TSim.bind TSim.sizeOf ?_
      rintro m3 n _ hl3 rfl
      exact TSim.part ((ARel.mk' hc ic).mono hl3) _
    · exact TSim.bpanic

theorem TSim.fieldPlace {m : Ren} {a a' : Addr} (h : AdR T m a a') (f : Field) : TSim P T w0 (AdR T) m (fieldPlace a f) (fieldPlace a' f) := by
  unfold Go.fieldPlace
  refine TSim.bind TSim.sizeOf ?_
  rintro m1 n _ hl rfl
  split
  · intro s b s' w hx
    obtain ⟨r, off, b, o, e, hr, rfl, rfl⟩ := h.cases
    exfalso
    unfold partAt byteOf at hx
    simp only [vsem_bind'] at hx
    obtain ⟨_, _, h1, _⟩ := bind_some hx
    obtain ⟨_, _, _, h1⟩ := bind_some h1
    obtain ⟨_, _, h1, _⟩ := bind_some h1
    unfold noView viewAt at h1
    simp only [vsem_bind'] at h1
    obtain ⟨_, _, h1, _⟩ := bind_some h1
    obtain ⟨_, _, h1, _⟩ := bind_some h1
    exact fail_some h1
  · exact TSim.pure ((h.mono hl).add _)

theorem TSim.fieldAt {m : Ren} {t : TypeId} {v v' : Value} (h : VRel T m v v') (i : Nat) : TSim P T w0 (VRel T) m (Instr.fieldAt t v i) (Instr.fieldAt t v' i) := by
  unfold Instr.fieldAt
  refine TSim.bind TSim.underlying ?_
  rintro m1 d _ hl rfl
  cases d <;> first | exact TSim.stuck | skip
  rename_i fields
  simp only
  split
  · refine TSim.bind (TSim.sureAddr (h.mono hl)) fun m2 a a' hl2 ha => ?_
    refine TSim.bind (TSim.fieldPlace ha _) fun m3 b b' hl3 hb => ?_
    exact TSim.pure hb
  · exact TSim.stuck

theorem TSim.indexAt {m : Ren} {t : TypeId} {v v' x x' : Value} (h : VRel T m v v') (hx : VRel T m x x') : TSim P T w0 (VRel T) m (Instr.indexAt t v x) (Instr.indexAt t v' x') := by
  unfold Instr.indexAt
  refine TSim.bind (TSim.asIntOf hx) ?_
  rintro m1 ⟨k, i⟩ _ hl rfl
  refine TSim.bind TSim.underlying ?_
  rintro m2 d _ hl2 rfl
  have h2 := (h.mono hl).mono hl2
  -- the place where it begins, its length, its element
  have key : ∀ {m : Ren} (base base' : Option Addr) (len : Nat) (elem : TypeId) (tiny : Bool),
      (base = none ∧ base' = none ∨ ∃ a a', base = some a ∧ base' = some a' ∧ ((0 : Int) ≤ i ∧ i < (len : Int) → AdR T m a a')) →
      TSim P T w0 (VRel T) m
        (match base with
          | some a =>
            if 0 ≤ i ∧ i < (len : Int) then do Pure.pure (Value.pointer (some (a.add (i.toNat * (← Go.sizeOf elem)))))
            else if tiny then Go.unsupported (Unsupported.noEntry "op/indexAddr.an index out of range at an array of length 0 or 1 (ledger 616)")
            else boundsPanic k i len .index
          | none => boundsPanic k i 0 .index)
        (match base' with
          | some a =>
            if 0 ≤ i ∧ i < (len : Int) then do Pure.pure (Value.pointer (some (a.add (i.toNat * (← Go.sizeOf elem)))))
            else if tiny then Go.unsupported (Unsupported.noEntry "op/indexAddr.an index out of range at an array of length 0 or 1 (ledger 616)")
            else boundsPanic k i len .index
          | none => boundsPanic k i 0 .index) := by
    intro m base base' len elem tiny hb
    rcases hb with ⟨rfl, rfl⟩ | ⟨a, a', rfl, rfl, hb⟩
    · exact TSim.bpanic
    · simp only
      split
      · rename_i hin
        refine TSim.bind TSim.sizeOf ?_
        rintro m3 n _ hl3 rfl
        exact TSim.pure (((hb hin).mono hl3).add _)
      · split
        · exact TSim.unsupported
        · exact TSim.bpanic
  cases d <;> first | exact TSim.stuck | skip
  · cases h2 <;> first | exact TSim.stuck | skip
    · simp only [pure_bind]
      refine TSim.bind TSim.underlying ?_
      rintro m3 d2 _ hl3 rfl
      exact TSim.bpanic
    · rename_i r off b o e x len z cap hr hxx
      simp only [pure_bind]
      refine TSim.bind TSim.underlying ?_
      rintro m3 d2 _ hl3 rfl
      refine key _ _ _ _ _ (.inr ⟨_, _, rfl, rfl, fun hin => ?_⟩)
      rcases hxx with ⟨hz, _⟩ | ⟨rfl, _, _⟩
      · omega
      · exact .mk (hl3 _ _ hr)
  · rename_i n elem
    simp only [pure_bind]
    refine TSim.bind (TSim.sureAddr h2) fun m3 a a' hl3 ha => ?_
    refine TSim.bind TSim.underlying ?_
    rintro m4 d2 _ hl4 rfl
    exact key _ _ _ _ _ (.inr ⟨_, _, rfl, rfl, fun _ => ha.mono hl4⟩)

end
end Vx
end

section
/- A virtual executor of the model's programs: further operations whose text is the model's own; what touches no memory. Conditions: none. -/
namespace Vx
open Go Go.RowKit

section
variable {P : Program} {T : Nat → Option Value} {w0 : World}

theorem nowhere_rd (k : Nat) : rd k nowhere = none := rfl
theorem nowhere_nw (o : VO) : nw o nowhere = none := by unfold nw nowhere; simp
theorem vsem_nowhere {α : Type} (t : Sem α) : ∀ {a : α} {s' : VS}, vsem P t nowhere = some (a, s') → s' = nowhere ∧ ∀ w, t.run P w = .ok a w := by
  induction t with
  | pure a => intro b s' h; obtain ⟨rfl, rfl⟩ := ret_some h; exact ⟨rfl, fun _ => rfl⟩
  | load md a k ih =>
    intro b s' h
    obtain ⟨_, _, h1, _⟩ := bind_some h
    obtain ⟨_, _, h1, _⟩ := bind_some h1
    rw [nowhere_rd] at h1; cases h1
  | store md a v k ih =>
    intro b s' h
    have : ∀ {u s1}, wrCell a v nowhere = some (u, s1) → False := by
      intro u s1 h1
      obtain ⟨_, _, h1, _⟩ := bind_some h1
      rw [nowhere_rd] at h1; cases h1
    cases v <;> first
      | exact (fail_some h).elim
      | (obtain ⟨_, _, h1, _⟩ := bind_some h; exact (this h1).elim)
  | new o k ih =>
    intro b s' h
    cases o <;> simp only [vsem] at h <;> first
      | exact (fail_some h).elim
      | (obtain ⟨_, _, h1, _⟩ := bind_some h; rw [nowhere_nw] at h1; cases h1)
      | (split at h <;> first | exact (fail_some h).elim | (obtain ⟨_, _, h1, _⟩ := bind_some h; rw [nowhere_nw] at h1; cases h1))
  | shape r k ih => intro b s' h; exact (fail_some h).elim
  | freeze a n k ih => intro b s' h; exact (fail_some h).elim
  | frozen a k ih => intro b s' h; exact (fail_some h).elim
  | getObj r k ih =>
    intro b s' h
    simp only [vsem] at h
    obtain ⟨_, _, h1, _⟩ := bind_some h
    rw [nowhere_rd] at h1; cases h1
  | setObj r o k ih =>
    intro b s' h
    simp only [vsem] at h
    obtain ⟨_, _, h1, _⟩ := bind_some h
    rw [nowhere_rd] at h1; cases h1
  | choose q k ih =>
    intro b s' h
    simp only [vsem] at h
    split at h
    · rename_i hq
      obtain ⟨h1, h2⟩ := ih 0 h
      exact ⟨h1, fun w => by simp only [Sem.run, hq, if_true]; exact h2 w⟩
    · exact (fail_some h).elim
  | sys c k ih => intro b s' h; exact (fail_some h).elim
  | program k ih => intro b s' h; obtain ⟨h1, h2⟩ := ih P h; exact ⟨h1, fun w => h2 w⟩
  | mark md k ih => intro b s' h; obtain ⟨h1, h2⟩ := ih h; exact ⟨h1, fun w => h2 w⟩
  | halt h => intro b s' h; exact (fail_some h).elim

theorem vpure_some {α : Type} {t : Sem α} {a : α} {s s' : VS} (h : vpure P t s = some (a, s')) : s' = s ∧ ∀ w, t.run P w = .ok a w := by
  unfold vpure at h
  cases hv : vsem P t nowhere with
  | none => rw [hv] at h; exact (fail_some h).elim
  | some p =>
    rw [hv] at h
    obtain ⟨b, s1⟩ := p
    obtain ⟨h1, h2⟩ := ret_some h
    subst h1
    subst h2
    exact ⟨rfl, (vsem_nowhere t hv).2⟩

/-- What touches no memory, and answers a value without addresses: the model's same text. -/
theorem Sim.pureV {m : Ren} {t : Sem Value} : Sim P T w0 (VRel T) m (vpureV P t) t := by
  intro s a s' w hx hw
  obtain ⟨v, s1, h1, h2⟩ := bind_some hx
  obtain ⟨rfl, hrun⟩ := vpure_some h1
  split at h2
  · rename_i hs
    obtain ⟨rfl, rfl⟩ := ret_some h2
    exact ⟨m, v, w, Ren.le_refl m, hrun w, scal_refl 4 m hs, hw⟩
  · exact (fail_some h2).elim
theorem Sim.pureE {α : Type} {m : Ren} {t : Sem α} : Sim P T w0 EqR m (vpure P t) t := by
  intro s a s' w hx hw
  obtain ⟨rfl, hrun⟩ := vpure_some hx
  exact ⟨m, a, w, Ren.le_refl m, hrun w, rfl, hw⟩

/-! ### Tables, in virtual steps -/
/-- The program's tables: every zero value is without addresses, and has its type's size. -/
def ZeroOk (P : Program) : Prop := ∀ t i z, zgood P t = true → P.info? t = some i → i.zero = some z → scal 4 z = true ∧ z.cells.size = i.size

theorem Sim.tunder {γ δ : Type} {R : Ren → γ → δ → Prop} {m : Ren} {t : TypeId} {f : TypeDesc → VM γ} {k : TypeDesc → Sem δ} (h : ∀ d, P.underlying t = some d → Sim P T w0 R m (f d) (k d)) :
    Sim P T w0 R m (VM.bind (tunder P t) f) (underlying t >>= k) := by
  intro s a s' w hx hw
  obtain ⟨d, s1, h1, h2⟩ := bind_some hx
  obtain ⟨h3, h4⟩ := lift_some h1
  subst h4
  obtain ⟨m', b, w', l1, l2, l3, l4⟩ := h d h3 s a s' w h2 hw
  exact ⟨m', b, w', l1, by rw [Sem.run_bind, run_underlying h3]; exact l2, l3, l4⟩
theorem run_typeInfo' {t : TypeId} {i : TypeInfo} (h : P.info? t = some i) (w : World) : (typeInfo t).run P w = .ok i w := by simp [typeInfo, h]
theorem Sim.tsize {γ δ : Type} {R : Ren → γ → δ → Prop} {m : Ren} {t : TypeId} {f : Nat → VM γ} {k : Nat → Sem δ} (h : ∀ n i, P.info? t = some i → i.size = n → Sim P T w0 R m (f n) (k n)) :
    Sim P T w0 R m (VM.bind (tsize P t) f) (Go.sizeOf t >>= k) := by
  intro s a s' w hx hw
  obtain ⟨n, s1, h1, h2⟩ := bind_some hx
  obtain ⟨h3, h4⟩ := lift_some h1
  subst h4
  obtain ⟨i, hi, rfl⟩ := Option.map_eq_some_iff.1 h3
  obtain ⟨m', b, w', l1, l2, l3, l4⟩ := h _ i hi rfl s a s' w h2 hw
  exact ⟨m', b, w', l1, by simp only [Go.sizeOf, Sem.run_bind, run_typeInfo' hi, Result.andThen_ok, Sem.run_pure]; exact l2, l3, l4⟩
theorem tsize_some {t : TypeId} {n : Nat} {s s' : VS} (h : tsize P t s = some (n, s')) : s = s' ∧ ∃ i, P.info? t = some i ∧ i.size = n := by
  obtain ⟨h3, h4⟩ := lift_some h
  obtain ⟨i, hi, rfl⟩ := Option.map_eq_some_iff.1 h3
  exact ⟨h4, i, hi, rfl⟩
theorem tbytes_some {t : TypeId} {n : Nat} {s s' : VS} (h : tbytes P t s = some (n, s')) : s = s' ∧ ∃ i, P.info? t = some i ∧ i.bytes = n := by
  obtain ⟨h3, h4⟩ := lift_some h
  obtain ⟨i, hi, rfl⟩ := Option.map_eq_some_iff.1 h3
  exact ⟨h4, i, hi, rfl⟩
theorem tzero_some {t : TypeId} {z : Value} {s s' : VS} (h : tzero P t s = some (z, s')) : s = s' ∧ ∃ i, P.info? t = some i ∧ i.zero = some z ∧ zgood P t = true := by
  unfold tzero at h
  split at h
  · rename_i ht
    obtain ⟨h1, rfl⟩ := lift_some h
    cases hi : P.info? t with
    | none => rw [hi] at h1; cases h1
    | some i => rw [hi] at h1; exact ⟨rfl, i, rfl, h1, ht⟩
  · exact (fail_some h).elim
theorem tunder_some {t : TypeId} {d : TypeDesc} {s s' : VS} (h : tunder P t s = some (d, s')) : s = s' ∧ P.underlying t = some d := by
  obtain ⟨h3, h4⟩ := lift_some h
  exact ⟨h4, h3⟩
theorem tsliceElem_some {t e : TypeId} {s s' : VS} (h : tsliceElem P t s = some (e, s')) : s = s' ∧ P.underlying t = some (.slice e) := by
  obtain ⟨d, s1, h1, h2⟩ := bind_some h
  obtain ⟨rfl, h3⟩ := tunder_some h1
  cases d <;> first | exact (fail_some h2).elim | skip
  obtain ⟨rfl, rfl⟩ := ret_some h2
  exact ⟨rfl, h3⟩
theorem run_sizeOf' {t : TypeId} {i : TypeInfo} (h : P.info? t = some i) (w : World) : (Go.sizeOf t).run P w = .ok i.size w := by simp [Go.sizeOf, run_typeInfo' h]
theorem run_zeroValue' {t : TypeId} {i : TypeInfo} {z : Value} (h : P.info? t = some i) (hz : i.zero = some z) (w : World) : (Go.zeroValue t).run P w = .ok z w := by simp [Go.zeroValue, run_typeInfo' h, hz]

theorem vsem_typeInfo {t : TypeId} {i : TypeInfo} {s s' : VS} (h : vsem P (typeInfo t) s = some (i, s')) : s = s' ∧ P.info? t = some i := by
  unfold typeInfo at h
  rw [vsem_bind'] at h
  obtain ⟨p, s1, h1, h2⟩ := bind_some h
  obtain ⟨h3, h4⟩ := ret_some h1
  subst h3
  subst h4
  cases hp : P.info? t with
  | none => rw [hp] at h2; exact (fail_some h2).elim
  | some j =>
    rw [hp] at h2
    obtain ⟨h5, h6⟩ := ret_some h2
    exact ⟨h6, by rw [h5]⟩
theorem vsem_zeroValue {t : TypeId} {z : Value} {s s' : VS} (h : vsem P (Go.zeroValue t) s = some (z, s')) : s = s' ∧ ∃ i, P.info? t = some i ∧ i.zero = some z := by
  unfold Go.zeroValue at h
  rw [vsem_bind'] at h
  obtain ⟨i, s1, h1, h2⟩ := bind_some h
  obtain ⟨rfl, h3⟩ := vsem_typeInfo h1
  cases hz : i.zero with
  | none => rw [hz] at h2; exact (fail_some h2).elim
  | some j =>
    rw [hz] at h2
    obtain ⟨h5, h6⟩ := ret_some h2
    exact ⟨h6, i, h3, by rw [hz, h5]⟩
theorem TSim.zeroRel (hz : ZeroOk P) {m : Ren} {t : TypeId} (ht : zgood P t = true) : TSim P T w0 (VRel T) m (Go.zeroValue t) (Go.zeroValue t) := by
  intro s a s' w hx hw
  obtain ⟨rfl, i, h1, h2⟩ := vsem_zeroValue hx
  exact ⟨m, a, w, Ren.le_refl m, run_zeroValue' h1 h2 w, scal_refl 4 m (hz _ _ _ ht h1 h2).1, hw⟩

/-! ### Operations -/
theorem TSim.alloc (hz : ZeroOk P) {m : Ren} {t : TypeId} (ht : zgood P t = true) : TSim P T w0 (VRel T) m (Instr.alloc t true (.tuple #[])) (Instr.alloc t true (.tuple #[])) := by
  unfold Instr.alloc
  refine TSim.bind (TSim.zeroRel hz ht) fun m1 z z' hl hzz => ?_
  exact TSim.bind (TSim.newVar hzz) fun m2 a a' _ ha => TSim.pure ha
theorem TSim.box {m : Ren} {t : TypeId} {v v' : Value} (h : VRel T m v v') : TSim P T w0 (VRel T) m (Instr.box t v) (Instr.box t v') := by
  unfold Instr.box
  exact TSim.bind (TSim.newVar h) fun m2 a a' _ ha => TSim.pure ha
theorem TSim.loadAt {m : Ren} {t : TypeId} {v v' : Value} (h : VRel T m v v') : TSim P T w0 (VRel T) m (Instr.loadAt t v) (Instr.loadAt t v') := by
  unfold Instr.loadAt
  exact TSim.bind (TSim.sureAddr h) fun m1 a a' _ ha => TSim.loadVar ha
theorem TSim.storeAt {m : Ren} {t : TypeId} {v v' x x' : Value} (h : VRel T m v v') (hx : VRel T m x x') : TSim P T w0 EqR m (Instr.storeAt t v x) (Instr.storeAt t v' x') := by
  unfold Instr.storeAt
  exact TSim.bind (TSim.sureAddr h) fun m1 a a' hl ha => TSim.storeVar ha (hx.mono hl)
theorem TSim.makeInterface {m : Ren} {t : TypeId} {v v' : Value} (h : VRel T m v v') : TSim P T w0 (VRel T) m (Instr.makeInterface t v) (Instr.makeInterface t v') := by
  unfold Instr.makeInterface
  refine TSim.bind TSim.underlying ?_
  rintro m1 d _ hl rfl
  split
  · exact TSim.stuck
  · exact TSim.pure (.iface (h.mono hl))
theorem TSim.newMap {m : Ren} : TSim P T w0 (fun m r b => ∃ o e, m r = some (b, o, e)) m (newObj (.map #[] 0)) (newObj (.map #[] 0)) := by
  intro s a s' w hx hw
  obtain ⟨k, s1, h1, h2⟩ := bind_some hx
  obtain ⟨rfl, rfl⟩ := ret_some h2
  obtain ⟨g1, g2⟩ := nw_some h1
  have hm : m k = none := by
    cases hm : m k with
    | none => rfl
    | some x => exact absurd g1 (hw.dom _ _ hm)
  refine ⟨m.put k (w.heap.size, 0, 0), w.heap.size, { w with heap := w.heap.push (.map #[] 0) }, Ren.le_put _ hm, rfl, ⟨_, _, put_same _ _ _⟩, ?_⟩
  rw [g2]
  exact hw.newObj g1 rfl rfl rfl rfl (.map 0 rfl fun i h _ => by simp at h)
theorem TSim.makeMap {m : Ren} {t : TypeId} {r r' : Option Value} (h : r = none ∧ r' = none ∨ ∃ v v', r = some v ∧ r' = some v' ∧ VRel T m v v') : TSim P T w0 (VRel T) m (Instr.makeMap t r) (Instr.makeMap t r') := by
  have fin : ∀ {m : Ren}, TSim P T w0 (VRel T) m (do Pure.pure (Value.map (some (← newObj (.map #[] 0))))) (do Pure.pure (Value.map (some (← newObj (.map #[] 0))))) := by
    intro m
    refine TSim.bind TSim.newMap ?_
    rintro m1 a b hl ⟨o, e, hr⟩
    exact TSim.pure (.map hr)
  rcases h with ⟨rfl, rfl⟩ | ⟨v, v', rfl, rfl, hv⟩
  · exact fin
  · unfold Instr.makeMap
    simp only
    refine TSim.bind TSim.underlying ?_
    rintro m1 d _ hl rfl
    cases d <;> first | exact TSim.stuck | skip
    simp only
    refine TSim.bind (TSim.asInt (hv.mono hl)) fun m2 _ _ _ _ => fin
theorem TSim.len {m : Ren} {ts : Array TypeId} {ty : TypeId} {a a' : Array Value} (h : ARel T m a a') : TSim P T w0 (VRel T) m (Builtin.len_ ts ty a) (Builtin.len_ ts ty a') := by
  unfold Builtin.len_
  cases ht : ts[0]? with
  | none => exact TSim.stuck
  | some t =>
    cases hx : a[0]? with
    | none => exact TSim.stuck
    | some x =>
      obtain ⟨x', h1, h2⟩ := h.get? hx
      simp only [h1]
      refine TSim.bind TSim.underlying ?_
      rintro m1 d _ hl rfl
      have h2 := h2.mono hl
      cases d <;> first | exact TSim.stuck | skip
      · cases h2 <;> first | exact TSim.stuck | exact TSim.pure (.int _ _)
      · refine TSim.bind TSim.underlying ?_
        rintro m2 d2 _ hl2 rfl
        cases d2 <;> first | exact TSim.stuck | exact TSim.pure (.int _ _)
      · cases h2 <;> first | exact TSim.stuck | exact TSim.pure (.int _ _)
      · exact TSim.pure (.int _ _)
      · cases h2 <;> first | exact TSim.stuck | exact TSim.pure (.int _ _) | skip
        rename_i r b o e hr
        intro s a s' w hx hw
        simp only [getObj, vsem_bind', vsem] at hx
        obtain ⟨ob, s1, g1, g2⟩ := bind_some hx
        obtain ⟨ob2, s2, g3, g4⟩ := bind_some g1
        obtain ⟨g5, g6⟩ := rd_some g3
        cases ob2 <;> first | exact (fail_some g4).elim | skip
        rename_i ob3
        obtain ⟨rfl, rfl⟩ := ret_some g4
        obtain ⟨b', o', x, y, q1, q2, q3, _⟩ := hw.objs _ _ g5
        rw [hr] at q1
        cases q1
        cases q3 <;> first | exact (fail_some g2).elim | skip
        rename_i es es' clock hs he
        obtain ⟨rfl, rfl⟩ := ret_some g2
        refine ⟨m1, .int .i64 es'.size, w, Ren.le_refl _, ?_, ?_, by rw [g6]; exact hw⟩
        · simp [getObj, Sem.run, q2, goInt]
        · rw [goInt, hs]; exact .int _ _
      · cases h2 <;> first | exact TSim.stuck | exact TSim.pure (.int _ _)
end
end Vx
end

section
/- A virtual executor of the model's programs: structs that are built; functions that are looked up. Conditions: none. -/
namespace Vx
open Go Go.RowKit

section
variable {P : Program} {T : Nat → Option Value} {w0 : World}

theorem ARel.setIfInBounds {m : Ren} {a a' : Array Value} (h : ARel T m a a') (i : Nat) {v v' : Value} (hv : VRel T m v v') : ARel T m (a.setIfInBounds i v) (a'.setIfInBounds i v') := by
  unfold ARel
  rw [Array.toList_setIfInBounds, Array.toList_setIfInBounds]
  exact LRel.set h i hv

/-- Parts of a struct, one by one. -/
inductive PRel (T : Nat → Option Value) (m : Ren) : List (Nat × Value) → List (Nat × Value) → Prop
  | nil : PRel T m [] []
  | cons {i : Nat} {v v' : Value} {l l' : List (Nat × Value)} (h : VRel T m v v') (hl : PRel T m l l') : PRel T m ((i, v) :: l) ((i, v') :: l')
theorem PRel.mono {m m' : Ren} (h : m.le m') {l l' : List (Nat × Value)} (r : PRel T m l l') : PRel T m' l l' := by
  induction r with
  | nil => exact .nil
  | cons hv _ ih => exact .cons (hv.mono h) ih

theorem foldl_put {m : Ren} (off : Nat) : ∀ (l l' : List Value) (k : Nat) (a a' : Array Value), LRel T m l l' → ARel T m a a' →
    ARel T m ((l.zipIdx k).foldl (fun cs x => cs.setIfInBounds (off + x.2) x.1) a) ((l'.zipIdx k).foldl (fun cs x => cs.setIfInBounds (off + x.2) x.1) a') := by
  intro l
  induction l with
  | nil =>
    intro l' k a a' hl ha
    cases l' with
    | nil => exact ha
    | cons _ _ => exact absurd hl.1 (by simp)
  | cons v l ih =>
    intro l' k a a' hl ha
    cases l' with
    | nil => exact absurd hl.1 (by simp)
    | cons v' l' =>
      simp only [List.zipIdx_cons, List.foldl_cons]
      exact ih l' (k + 1) _ _ hl.tail (ha.setIfInBounds _ hl.head)

theorem fill_rel {m : Ren} {place : Nat → Option (Nat × Nat)} {l l' : List (Nat × Value)} (h : PRel T m l l') : ∀ {a a' : Array Value} {c : Array Value}, ARel T m a a' → Instr.fill place a l = some c →
    ∃ c', Instr.fill place a' l' = some c' ∧ ARel T m c c' := by
  induction h with
  | nil => intro a a' c ha hc; simp only [Instr.fill, Option.some.injEq] at hc; subst hc; exact ⟨a', rfl, ha⟩
  | cons hv hl ih =>
    rename_i i v v' l l'
    intro a a' c ha hc
    unfold Instr.fill at hc ⊢
    cases hp : place i with
    | none => rw [hp] at hc; cases hc
    | some p =>
      rw [hp] at hc
      obtain ⟨off, size⟩ := p
      simp only at hc ⊢
      have hs := hv.cells.size
      have has := ha.size
      split at hc
      · cases hc
      · rename_i hcond
        rw [← hs, ← has, if_neg hcond]
        refine ih ?_ hc
        have := foldl_put (T := T) off v.cells.toList v'.cells.toList 0 a a' hv.cells ha
        rw [← Array.foldl_toList, ← Array.foldl_toList, Array.toList_zipIdx, Array.toList_zipIdx]
        exact this

theorem TSim.mapList {α β : Type} {f : α → Sem β} (hf : ∀ {m : Ren} (x : α), TSim P T w0 EqR m (f x) (f x)) : ∀ (l : List α) {m : Ren}, TSim P T w0 EqR m (l.mapM f) (l.mapM f) := by
  intro l
  induction l with
  | nil => intro m; simp only [List.mapM_nil]; exact TSim.pure rfl
  | cons x l ih =>
    intro m
    simp only [List.mapM_cons]
    refine TSim.bind (hf x) ?_
    rintro m1 a _ _ rfl
    refine TSim.bind ih ?_
    rintro m2 b _ _ rfl
    exact TSim.pure rfl
theorem TSim.mapArray {α β : Type} {f : α → Sem β} (hf : ∀ {m : Ren} (x : α), TSim P T w0 EqR m (f x) (f x)) (a : Array α) {m : Ren} : TSim P T w0 EqR m (a.mapM f) (a.mapM f) := by
  rw [Array.mapM_eq_mapM_toList]
  exact TSim.map (TSim.mapList hf _) (by rintro _ _ _ _ rfl; rfl)

theorem TSim.build (hz : ZeroOk P) {m : Ren} {t : TypeId} (ht : zgood P t = true) {a a' : Array (Nat × Value)} (h : PRel T m a.toList a'.toList) : TSim P T w0 (VRel T) m (Instr.build t a) (Instr.build t a') := by
  unfold Instr.build
  refine TSim.bind (TSim.zeroRel hz ht) fun m1 z z' hl hzz => ?_
  refine TSim.bind TSim.underlying ?_
  rintro m2 d _ hl2 rfl
  have hzz := (hzz.mono hl2).cells
  have h2 := (h.mono hl).mono hl2
  cases d <;> first | exact TSim.stuck | skip
  · rename_i n elem
    simp only
    refine TSim.bind TSim.sizeOf ?_
    rintro m3 size _ hl3 rfl
    cases hc : Instr.fill (fun i => some (i * size, size)) z.cells a.toList with
    | none => exact TSim.stuck
    | some c =>
      obtain ⟨c', h1, h3⟩ := fill_rel (h2.mono hl3) (hzz.mono hl3) hc
      simp only [h1]
      exact TSim.pure (.agg' h3)
  · rename_i fields
    simp only
    refine TSim.bind (TSim.mapArray (fun x => ?_) _) ?_
    · refine TSim.bind TSim.sizeOf ?_
      rintro _ n _ _ rfl
      exact TSim.pure rfl
    · rintro m3 places _ hl3 rfl
      cases hc : Instr.fill (fun x => places[x]?) z.cells a.toList with
      | none => exact TSim.stuck
      | some c =>
        obtain ⟨c', h1, h3⟩ := fill_rel (h2.mono hl3) (hzz.mono hl3) hc
        simp only [h1]
        exact TSim.pure (.agg' h3)

/-! ### Calls: which function -/
theorem TSim.ofValue {m : Ren} {v v' : Value} {a a' : Array Value} (h : VRel T m v v') (ha : ARel T m a a') : TSim P T w0 (DefRel T) m (Deferred.ofValue v a) (Deferred.ofValue v' a') := by
  cases h <;> first | exact TSim.stuck | skip
  · exact TSim.pure ⟨.nil, ha⟩
  · rename_i fn fn' f f' c c' hf hfs hcs fi ci
    exact TSim.pure ⟨.fn hf (.mk' hcs ci), (ARel.mk' hfs fi).append ha⟩

end
end Vx
end

section
/- A virtual executor of the model's programs: slices that are made, cut, and appended to. Conditions: none beyond the program's tables. -/
namespace Vx
open Go Go.RowKit

section
variable {P : Program} {T : Nat → Option Value} {w0 : World}

theorem newSliceRow_some {cs : List Value} {e : TypeId} {r : Nat} {s s' : VS} {m : Ren} {w w' : World} (hx : newSliceRow cs e s = some (r, s')) (hw : HR T w0 m s.g w) {c : Array Value} {E : TypeId} {lo hi : Nat}
    (hh : w'.heap = w.heap.push (.cells c E (lo, hi))) (ho : w'.os = w.os) (ht : w'.tape = w.tape) (hp : w'.output = w.output)
    (hlen : cs.length ≤ c.size) (hcs : ∀ (i : Nat) v, cs[i]? = some v → ∃ v', c[i]? = some v' ∧ VRel T m v v') (hfz : ∀ j, j < c.size → ¬(lo ≤ j ∧ j < hi)) :
    ∃ m', m.le m' ∧ m' r = some (w.heap.size, 0, c.size) ∧ HR T w0 m' s'.g w' := by
  obtain ⟨f, s1, h1, h2⟩ := bind_some hx
  obtain ⟨g1, g2⟩ := nw_some h1
  obtain ⟨r1, s2, h3, h4⟩ := bind_some h2
  obtain ⟨g3, g4⟩ := nw_some h3
  obtain ⟨u, s3, h5, h6⟩ := bind_some h4
  obtain ⟨rfl, rfl⟩ := ret_some h6
  split at h5
  · exact (fail_some h5).elim
  · rename_i hf
    have g5 := (wr_some h5).2
    rw [g2] at g3
    have hrf : r1 ≠ f := by intro e; subst e; rw [upd_same] at g3; cases g3
    rw [upd_other _ _ hrf] at g3
    have hg : ∀ k, s3.g k = if k = f then some (.fam [(r1, 0, cs.length)]) else if k = r1 then some (.row cs e f 0) else s.g k := by
      intro k
      rw [g5, g4, g2]
      unfold upd
      by_cases hk : k = f
      · simp [hk]
      · simp [hk]
    have hm : m r1 = none := by
      cases hm : m r1 with
      | none => rfl
      | some x => exact absurd g3 (hw.dom _ _ hm)
    refine ⟨m.put r1 (w.heap.size, 0, c.size), Ren.le_put _ hm, put_same _ _ _, ?_⟩
    refine hw.newCells g3 hh ho ht hp hlen hcs hfz (fun h0 => absurd h0 hf) (by rw [hg, if_neg hrf, if_pos rfl]) (fun q hq => ?_) ?_
    · by_cases hqf : q = f
      · subst hqf
        rw [hg, if_pos rfl]
        exact ⟨(fun _ _ _ _ h => by cases h), (fun _ h => by cases h), fun h => absurd g1 h⟩
      · rw [hg, if_neg hqf, if_neg hq]
        exact ⟨fun _ _ _ _ h => h, fun _ h => h, fun h => h⟩
    · intro q cs' e' f' st' hq hf'
      rw [hg] at hq
      split at hq
      · cases hq
      · split at hq
        · cases hq
          subst_vars
          exact ⟨_, by rw [hg, if_pos rfl], by simp⟩
        · obtain ⟨l, hl, hmem⟩ := hw.fams _ _ _ _ _ hq hf'
          refine ⟨l, ?_, hmem⟩
          rw [hg, if_neg (by intro e; subst e; rw [g1] at hl; cases hl), if_neg (by intro e; subst e; rw [g3] at hl; cases hl)]
          exact hl

theorem zcells_rel {m : Ren} {z : Value} (h : scal 4 z = true) : ARel T m z.cells z.cells := (scal_refl 4 m h).cells

theorem default_rel (m : Ren) : VRel T m (default : Value) default := VRel.bool _

theorem ARel.at! {m : Ren} {a a' : Array Value} (h : ARel T m a a') (i : Nat) : VRel T m a[i]! a'[i]! := by
  by_cases hi : i < a.size
  · rw [getElem!_pos a i hi, getElem!_pos a' i (by rw [← h.size]; exact hi)]
    exact h.at_ i hi _
  · rw [getElem!_neg a i hi, getElem!_neg a' i (by rw [← h.size]; exact hi)]
    exact default_rel m

theorem fill_size {place : Nat → Option (Nat × Nat)} : ∀ {l : List (Nat × Value)} {a c : Array Value}, Instr.fill place a l = some c → c.size = a.size := by
  intro l
  induction l with
  | nil => intro a c h; simp only [Instr.fill, Option.some.injEq] at h; rw [h]
  | cons x l ih =>
    intro a c h
    obtain ⟨i, v⟩ := x
    unfold Instr.fill at h
    split at h
    · cases h
    · split at h
      · cases h
      · rw [ih h]
        rw [← Array.foldl_toList]
        rename_i off _ _ _
        have key : ∀ (l' : List (Value × Nat)) (a : Array Value), (l'.foldl (fun cs (x : Value × Nat) => cs.setIfInBounds (off + x.2) x.1) a).size = a.size := by
          intro l'
          induction l' with
          | nil => intro a; rfl
          | cons x l' ih => intro a; simp only [List.foldl_cons]; rw [ih]; simp
        exact key _ _

theorem slice_new {m : Ren} {r b n e len z cap : Nat} (h : m r = some (b, 0, e)) (h1 : len ≤ cap) (h2 : cap * z ≤ e) (_ : n = 0) : VRel T m (.slice (some ⟨r, 0, none⟩) len z) (.slice (some ⟨b, 0, none⟩) len cap) :=
  .slice h (.inr ⟨by omega, h1, by omega⟩)

theorem Sim.buildSlice (hz : ZeroOk P) {m : Ren} {t : TypeId} {len : Nat} {a a' : Array (Nat × Value)} (h : PRel T m a.toList a'.toList) : Sim P T w0 (VRel T) m (vbuildSlice P t len a) (Instr.buildSlice t len a') := by
  intro s v s' w hx hw
  obtain ⟨elem, s1, h1, h2⟩ := bind_some hx
  obtain ⟨rfl, hu⟩ := tsliceElem_some h1
  obtain ⟨size, s2, h3, h4⟩ := bind_some h2
  obtain ⟨rfl, i, hi, rfl⟩ := tsize_some h3
  split at h4
  · exact (fail_some h4).elim
  · rename_i hbig
    obtain ⟨z, s3, h5, h6⟩ := bind_some h4
    have hz' : s = s3 ∧ ARel T m z.cells z.cells ∧ ((len * i.size = 0 ∧ z.cells = #[]) ∨ (len * i.size ≠ 0 ∧ ∃ j, P.info? elem = some j ∧ j.zero = some z)) := by
      split at h5
      · rename_i h0
        obtain ⟨rfl, rfl⟩ := ret_some h5
        exact ⟨rfl, ARel.empty m, .inl ⟨h0, rfl⟩⟩
      · rename_i h0
        obtain ⟨rfl, j, hj, hzz, htt⟩ := tzero_some h5
        exact ⟨rfl, zcells_rel (hz _ _ _ htt hj hzz).1, .inr ⟨h0, j, hj, hzz⟩⟩
    obtain ⟨rfl, hzr, hzrun⟩ := hz'
    obtain ⟨cells, s4, h7, h8⟩ := bind_some h6
    obtain ⟨hfill, rfl⟩ := lift_some h7
    obtain ⟨r, s5, h9, h10⟩ := bind_some h8
    obtain ⟨rfl, rfl⟩ := ret_some h10
    have hinit : ARel T m ((Array.range (len * i.size)).map (z.cells[· % z.cells.size]!)) ((Array.range (len * i.size)).map (z.cells[· % z.cells.size]!)) := by
      refine .mk' rfl fun k hk hk' => ?_
      simp only [Array.getElem_map, Array.getElem_range]
      exact hzr.at! _
    obtain ⟨c', hf', hc'⟩ := fill_rel h hinit hfill
    have hsz : c'.size = len * i.size := by rw [fill_size hf']; simp
    obtain ⟨m', l1, l2, l3⟩ := newSliceRow_some (w' := { w with heap := w.heap.push (.cells c' elem) }) h9 hw rfl rfl rfl rfl (by simpa using Nat.le_of_eq hc'.size) (fun j v hv => by
      obtain ⟨v', q1, q2⟩ := LRel.get? hc' hv
      exact ⟨v', by simpa using q1, q2⟩) (fun j _ => by omega)
    refine ⟨m', .slice (some ⟨w.heap.size, 0, none⟩) len len, { w with heap := w.heap.push (.cells c' elem) }, l1, ?_, slice_new l2 (Nat.le_refl _) (by omega) rfl, l3⟩
    have hbig' : ¬ (len * i.size > 2 ^ 24) := by omega
    rcases hzrun with ⟨h0, hz0⟩ | ⟨h0, j, hj, hzz⟩
    · rw [hz0] at hf'
      simp only [Instr.buildSlice, Sem.run_bind, run_underlying hu, Result.andThen_ok, run_sizeOf' hi, if_neg hbig', if_pos h0, Sem.run_pure, hf']
      rfl
    · simp only [Instr.buildSlice, Sem.run_bind, run_underlying hu, Result.andThen_ok, run_sizeOf' hi, if_neg hbig', if_neg h0, run_zeroValue' hj hzz, Sem.run_pure, hf']
      rfl

theorem replicate_length (n : Nat) (l : List Value) : (replicateCells n l).length = n * l.length := by
  induction n with
  | zero => simp [replicateCells]
  | succ n ih => simp only [replicateCells, List.length_append, ih]; rw [Nat.add_mul]; omega
theorem replicate_get (n : Nat) (l : List Value) : ∀ i, i < n * l.length → (replicateCells n l)[i]? = l[i % l.length]? := by
  induction n with
  | zero => intro i h; simp at h
  | succ n ih =>
    intro i h
    simp only [replicateCells]
    rw [List.getElem?_append]
    split
    · rename_i hi; rw [Nat.mod_eq_of_lt hi]
    · rename_i hi
      rw [ih _ (by rw [Nat.add_mul] at h; omega)]
      congr 1
      rw [← Nat.mod_eq_sub_mod (by omega)]

theorem vint_some {v : Value} {n : Int} {s s' : VS} (h : vint v s = some (n, s')) : (∃ k, v = .int k n) ∧ s = s' := by
  cases v <;> simp [vint, VM.fail, VM.ret] at h
  obtain ⟨rfl, rfl⟩ := h
  exact ⟨⟨_, rfl⟩, rfl⟩

theorem Sim.makeSlice (hz : ZeroOk P) {m : Ren} {t : TypeId} {l l' c c' : Value} (hl : VRel T m l l') (hc : VRel T m c c') : Sim P T w0 (VRel T) m (vmakeSlice P t l c) (Instr.makeSlice t l' c') := by
  intro s v s' w hx hw
  obtain ⟨elem, s1, h1, h2⟩ := bind_some hx
  obtain ⟨rfl, hu⟩ := tsliceElem_some h1
  obtain ⟨ln, s2, h3, h4⟩ := bind_some h2
  obtain ⟨⟨kl, rfl⟩, rfl⟩ := vint_some h3
  cases hl
  obtain ⟨cn, s3, h5, h6⟩ := bind_some h4
  obtain ⟨⟨kc, rfl⟩, rfl⟩ := vint_some h5
  cases hc
  obtain ⟨size, s4, h7, h8⟩ := bind_some h6
  obtain ⟨rfl, i, hi, rfl⟩ := tsize_some h7
  obtain ⟨bytes, s5, h9, h10⟩ := bind_some h8
  obtain ⟨rfl, i', hi', rfl⟩ := tbytes_some h9
  rw [hi] at hi'
  cases hi'
  split at h10
  · rename_i hcond
    obtain ⟨z, s6, h11, h12⟩ := bind_some h10
    obtain ⟨rfl, j, hj, hzz, htt⟩ := tzero_some h11
    rw [hi] at hj
    cases hj
    split at h12
    · rename_i hzs
      obtain ⟨r, s7, h13, h14⟩ := bind_some h12
      obtain ⟨rfl, rfl⟩ := ret_some h14
      have hrun := run_make (P := P) w t elem i z hu hi hzz kl kc ln cn hcond.1 hcond.2.1 (by have := hcond.2.2.1; rw [Int.mul_comm]; omega) (by omega)
      have hmz : (madeCells z.cells (cn.toNat * i.size)).size = cn.toNat * i.size := size_madeCells _ _
      have hle : ln.toNat * i.size ≤ cn.toNat * i.size := Nat.mul_le_mul_right _ (by omega)
      have hrl : (replicateCells ln.toNat z.cells.toList).length = ln.toNat * i.size := by rw [replicate_length]; simp [hzs]
      obtain ⟨m', l1, l2, l3⟩ := newSliceRow_some (w' := w.alloc (.cells (madeCells z.cells (cn.toNat * i.size)) elem)) h13 hw rfl rfl rfl rfl (by rw [hrl, hmz]; exact hle) (fun k v hv => by
        have hk : k < ln.toNat * i.size := by
          have := (List.getElem?_eq_some_iff.1 hv).1
          omega
        rw [replicate_get _ _ _ (by simpa [hzs] using hk)] at hv
        have hzr := zcells_rel (T := T) (m := m) (hz _ _ _ htt hi hzz).1
        have hv' : z.cells[k % z.cells.size]? = some v := by simpa using hv
        refine ⟨z.cells[k % z.cells.size]!, ?_, ?_⟩
        · rw [madeCells, Array.getElem?_map, Array.getElem?_range, if_pos (by omega)]
          rfl
        · have := hzr.at! (k % z.cells.size)
          rw [getElem!_def, hv'] at this
          rw [getElem!_def, hv']
          exact this) (fun j _ => by omega)
      refine ⟨m', _, _, l1, hrun, slice_new l2 (by omega) (by rw [hmz]; exact Nat.le_refl _) rfl, l3⟩
    · exact (fail_some h12).elim
  · exact (fail_some h10).elim

end
end Vx
end

section
/- A virtual executor of the model's programs: slices that are cut, and appended to. Conditions: none beyond the program's tables. -/
namespace Vx
open Go Go.RowKit

section
variable {P : Program} {T : Nat → Option Value} {w0 : World}

/-- A bound of a slice expression that holds in both. -/
theorem vbound_run {m : Ren} {hi : Nat} {x x' : Option Value} {d n : Nat} {s s' : VS} (hx : vbound hi x d s = some (n, s')) (h : x = none ∧ x' = none ∨ ∃ v v', x = some v ∧ x' = some v' ∧ VRel T m v v') :
    s = s' ∧ (x = none ∧ x' = none ∧ n = d ∨ ∃ k i, x' = some (.int k i) ∧ 0 ≤ i ∧ i ≤ hi ∧ n = i.toNat ∧ x.isSome = true) := by
  rcases h with ⟨rfl, rfl⟩ | ⟨v, v', rfl, rfl, hv⟩
  · obtain ⟨rfl, rfl⟩ := ret_some hx
    exact ⟨rfl, .inl ⟨rfl, rfl, rfl⟩⟩
  · cases v <;> simp [vbound, VM.fail] at hx
    cases hv
    split at hx
    · rename_i hc
      simp [VM.ret] at hx
      exact ⟨hx.2, .inr ⟨_, _, rfl, hc.1, hc.2, hx.1.symm, rfl⟩⟩
    · cases hx

theorem run_sliceBound' (w : World) (k : IntKind) (i : Int) (y : Nat) (code : BoundsCode) (h0 : 0 ≤ i) (h1 : i ≤ y) : (Instr.sliceBound (.int k i) y code).run P w = .ok i.toNat w := run_sliceBound (P := P) w k i y code h0 h1

/-- Optional values. -/
def ORel (T : Nat → Option Value) (m : Ren) (x x' : Option Value) : Prop := x = none ∧ x' = none ∨ ∃ v v', x = some v ∧ x' = some v' ∧ VRel T m v v'

/-- The three bounds. -/
theorem run_sliceBounds {w : World} {isS : Bool} {len cap l h mm : Nat} {lo hi mx : Option Value} (hm : mx = none ∧ mm = cap ∨ ∃ k i, mx = some (.int k i) ∧ 0 ≤ i ∧ i ≤ cap ∧ mm = i.toNat)
    (hh : hi = none ∧ mx = none ∧ h = len ∨ ∃ k i, hi = some (.int k i) ∧ 0 ≤ i ∧ i ≤ mm ∧ h = i.toNat) (hl : lo = none ∧ l = 0 ∨ ∃ k i, lo = some (.int k i) ∧ 0 ≤ i ∧ i ≤ h ∧ l = i.toNat) :
    (Instr.sliceBounds isS len cap lo hi mx).run P w = .ok (l, h, mm) w := by
  rcases hm with ⟨rfl, rfl⟩ | ⟨k1, i1, rfl, a1, b1, rfl⟩
  · rcases hh with ⟨rfl, _, rfl⟩ | ⟨k2, i2, rfl, a2, b2, rfl⟩
    · rcases hl with ⟨rfl, rfl⟩ | ⟨k3, i3, rfl, a3, b3, rfl⟩
      · simp [Instr.sliceBounds]
      · simp [Instr.sliceBounds, run_sliceBound' w _ _ _ _ a3 b3]
    · rcases hl with ⟨rfl, rfl⟩ | ⟨k3, i3, rfl, a3, b3, rfl⟩
      · simp [Instr.sliceBounds, run_sliceBound' w _ _ _ _ a2 b2]
      · simp [Instr.sliceBounds, run_sliceBound' w _ _ _ _ a2 b2, run_sliceBound' w _ _ _ _ a3 b3]
  · rcases hh with ⟨_, h0, _⟩ | ⟨k2, i2, rfl, a2, b2, rfl⟩
    · cases h0
    · rcases hl with ⟨rfl, rfl⟩ | ⟨k3, i3, rfl, a3, b3, rfl⟩
      · simp [Instr.sliceBounds, run_sliceBound' w _ _ _ _ a1 b1, run_sliceBound' w _ _ _ _ a2 b2]
      · simp [Instr.sliceBounds, run_sliceBound' w _ _ _ _ a1 b1, run_sliceBound' w _ _ _ _ a2 b2, run_sliceBound' w _ _ _ _ a3 b3]

theorem extract_str (s : ByteArray) (l h : Nat) : (⟨⟨(s.data.toList.drop l).take (h - l)⟩⟩ : ByteArray) = s.extract l h := by
  have : (s.extract l h).data.toList = (s.data.toList.drop l).take (h - l) := by
    rw [ByteArray.data_extract, Array.toList_extract]
  rw [← this]

theorem Sim.slice {m : Ren} {t : TypeId} {x x' : Value} {lo lo' hi hi' mx mx' : Option Value} (hx : VRel T m x x') (hlo : ORel T m lo lo') (hhi : ORel T m hi hi') (hmx : ORel T m mx mx') :
    Sim P T w0 (VRel T) m (vslice P t x lo hi mx) (Instr.sliceAt t x' lo' hi' mx') := by
  intro s v s' w hv hw
  obtain ⟨d, s1, h1, h2⟩ := bind_some hv
  obtain ⟨rfl, hu⟩ := tunder_some h1
  have hOne : ∀ {x x' : Option Value}, ORel T m x x' → x.isSome = x'.isSome := by
    rintro x x' (⟨rfl, rfl⟩ | ⟨_, _, rfl, rfl, _⟩) <;> rfl
  cases d <;> try (cases hx <;> exact (fail_some h2).elim)
  · -- a string
    cases hx <;> try exact (fail_some h2).elim
    rename_i str
    simp only at h2
    split at h2
    · exact (fail_some h2).elim
    · rename_i hmn
      obtain ⟨h, s2, h3, h4⟩ := bind_some h2
      obtain ⟨l, s3, h5, h6⟩ := bind_some h4
      obtain ⟨rfl, rfl⟩ := ret_some h6
      obtain ⟨rfl, r1⟩ := vbound_run h3 hhi
      obtain ⟨rfl, r2⟩ := vbound_run h5 hlo
      have hmn' : mx' = none := by
        have := hOne hmx
        cases mx <;> cases mx' <;> simp_all
      subst hmn'
      refine ⟨m, .string (str.extract l h), w, Ren.le_refl m, ?_, by rw [extract_str]; exact .string _, hw⟩
      have hb := run_sliceBounds (P := P) (w := w) (isS := false) (len := str.size) (cap := str.size) (l := l) (h := h) (mm := str.size) (lo := lo') (hi := hi') (mx := none) (.inl ⟨rfl, rfl⟩)
        (by rcases r1 with ⟨_, a, b⟩ | ⟨k, i, a, b, c, d, _⟩
            · exact .inl ⟨a, rfl, b⟩
            · exact .inr ⟨k, i, a, b, c, d⟩)
        (by rcases r2 with ⟨_, a, b⟩ | ⟨k, i, a, b, c, d, _⟩
            · exact .inl ⟨a, b⟩
            · exact .inr ⟨k, i, a, b, c, d⟩)
      simp [Instr.sliceAt, Instr.slice, run_underlying hu, hb]
  · -- a slice
    rename_i elem
    cases x <;> try exact (fail_some h2).elim
    rename_i a len z
    simp only at h2
    split at h2
    · exact (fail_some h2).elim
    · rename_i hmh
      obtain ⟨size, s2, h3, h4⟩ := bind_some h2
      obtain ⟨rfl, i, hi0, rfl⟩ := tsize_some h3
      split at h4
      · exact (fail_some h4).elim
      · rename_i hsz
        obtain ⟨mm, s3, h5, h6⟩ := bind_some h4
        obtain ⟨h, s4, h7, h8⟩ := bind_some h6
        obtain ⟨l, s5, h9, h10⟩ := bind_some h8
        obtain ⟨rfl, rfl⟩ := ret_some h10
        obtain ⟨rfl, r1⟩ := vbound_run h5 hmx
        obtain ⟨rfl, r2⟩ := vbound_run h7 hhi
        obtain ⟨rfl, r3⟩ := vbound_run h9 hlo
        -- the model's own bounds, at its capacity
        have bounds : ∀ cap, len ≤ cap → ∃ M, M ≤ cap ∧ h ≤ M ∧ l ≤ h ∧ h ≤ len ∧ (mx'.isSome = true → M = mm) ∧ (Instr.sliceBounds true len cap lo' hi' mx').run P w = .ok (l, h, M) w := by
          intro cap hcap
          rcases r1 with ⟨a1, a2, a3⟩ | ⟨k1, i1, a1, a2, a3, a4, a5⟩
          · have hh : h ≤ len ∧ (hi' = none ∧ h = len ∨ ∃ k i, hi' = some (.int k i) ∧ 0 ≤ i ∧ i ≤ mm ∧ h = i.toNat) := by
              rcases r2 with ⟨_, b2, b3⟩ | ⟨k2, i2, b1, b2, b3, b4, _⟩
              · exact ⟨by omega, .inl ⟨b2, b3⟩⟩
              · exact ⟨by omega, .inr ⟨k2, i2, b1, b2, b3, b4⟩⟩
            have hl : l ≤ h ∧ (lo' = none ∧ l = 0 ∨ ∃ k i, lo' = some (.int k i) ∧ 0 ≤ i ∧ i ≤ h ∧ l = i.toNat) := by
              rcases r3 with ⟨_, b2, b3⟩ | ⟨k2, i2, b1, b2, b3, b4, _⟩
              · exact ⟨by omega, .inl ⟨b2, b3⟩⟩
              · exact ⟨by omega, .inr ⟨k2, i2, b1, b2, b3, b4⟩⟩
            refine ⟨cap, Nat.le_refl _, by omega, hl.1, hh.1, (by rw [a2]; exact fun h => nomatch h), ?_⟩
            refine run_sliceBounds (.inl ⟨a2, rfl⟩) ?_ hl.2
            rcases hh.2 with ⟨b1, b2⟩ | ⟨k2, i2, b1, b2, b3, b4⟩
            · exact .inl ⟨b1, a2, b2⟩
            · exact .inr ⟨k2, i2, b1, b2, by omega, b4⟩
          · have hh : h ≤ mm ∧ ∃ k i, hi' = some (.int k i) ∧ 0 ≤ i ∧ i ≤ mm ∧ h = i.toNat := by
              rcases r2 with ⟨b1, b2, b3⟩ | ⟨k2, i2, b1, b2, b3, b4, _⟩
              · exfalso
                rw [b1] at hmh
                simp [a5] at hmh
              · exact ⟨by omega, k2, i2, b1, b2, b3, b4⟩
            have hl : l ≤ h ∧ (lo' = none ∧ l = 0 ∨ ∃ k i, lo' = some (.int k i) ∧ 0 ≤ i ∧ i ≤ h ∧ l = i.toNat) := by
              rcases r3 with ⟨_, b2, b3⟩ | ⟨k2, i2, b1, b2, b3, b4, _⟩
              · exact ⟨by omega, .inl ⟨b2, b3⟩⟩
              · exact ⟨by omega, .inr ⟨k2, i2, b1, b2, b3, b4⟩⟩
            refine ⟨mm, by omega, hh.1, hl.1, by omega, fun _ => rfl, ?_⟩
            exact run_sliceBounds (.inr ⟨k1, i1, a1, a2, by omega, a4⟩) (.inr hh.2) hl.2
        have fin : ∀ a' cap M, (Instr.sliceBounds true len cap lo' hi' mx').run P w = .ok (l, h, M) w →
            (Instr.sliceAt t (.slice a' len cap) lo' hi' mx').run P w = .ok (.slice (if M = l then a' else a'.map (·.add (l * i.size))) (h - l) (M - l)) w := by
          intro a' cap M hb
          simp [Instr.sliceAt, Instr.slice, run_underlying hu, hb, run_sizeOf' hi0]
        cases hx
        · obtain ⟨M, q1, q2, q3, q4, _, q6⟩ := bounds 0 (Nat.le_refl _)
          refine ⟨m, _, w, Ren.le_refl m, fin _ _ _ q6, ?_, hw⟩
          obtain rfl : M = 0 := by omega
          obtain rfl : h = 0 := by omega
          obtain rfl : l = 0 := by omega
          exact .nilslice z
        · rename_i r off b o e x cap hr hxx
          have hz : i.size = z := by simpa using hsz
          have hlc : len ≤ cap := by rcases hxx with ⟨a, b⟩ | ⟨_, a, _⟩ <;> omega
          obtain ⟨M, q1, q2, q3, q4, _, q6⟩ := bounds cap hlc
          refine ⟨m, _, w, Ren.le_refl m, fin _ _ _ q6, ?_, hw⟩
          simp only [Option.map_some, add_lit]
          rcases hxx with ⟨e1, e2⟩ | ⟨e1, e2, e3⟩
          · obtain rfl : M = 0 := by omega
            obtain rfl : h = 0 := by omega
            obtain rfl : l = 0 := by omega
            simp only [if_true]
            exact .slice hr (.inl ⟨rfl, rfl⟩)
          · split
            · rename_i hMl
              exact .slice hr (.inl ⟨by omega, by omega⟩)
            · refine .slice hr (.inr ⟨by rw [e1, Nat.add_assoc], by omega, ?_⟩)
              rw [hz]
              have : l * z + (M - l) * z = M * z := by rw [← Nat.add_mul]; congr 1; omega
              have : M * z ≤ cap * z := Nat.mul_le_mul_right _ q1
              omega
  · -- an array in memory
    rename_i n elem
    cases x <;> try exact (fail_some h2).elim
    rename_i a
    cases a with
    | none => exact (fail_some h2).elim
    | some a =>
    simp only at h2
    split at h2
    · exact (fail_some h2).elim
    · rename_i hmh
      obtain ⟨size, s2, h3, h4⟩ := bind_some h2
      obtain ⟨rfl, i, hi0, rfl⟩ := tsize_some h3
      obtain ⟨mm, s3, h5, h6⟩ := bind_some h4
      obtain ⟨h, s4, h7, h8⟩ := bind_some h6
      obtain ⟨l, s5, h9, h10⟩ := bind_some h8
      obtain ⟨ob, s6, h11, h12⟩ := bind_some h10
      obtain ⟨rfl, r1⟩ := vbound_run h5 hmx
      obtain ⟨rfl, r2⟩ := vbound_run h7 hhi
      obtain ⟨rfl, r3⟩ := vbound_run h9 hlo
      obtain ⟨g1, g2⟩ := rd_some h11
      cases ob <;> try exact (fail_some h12).elim
      rename_i cells e f st
      simp only at h12
      split at h12
      · rename_i hcl
        obtain ⟨rfl, rfl⟩ := ret_some h12
        cases hx
        rename_i r off b o e' hr
        have hb : (Instr.sliceBounds false n n lo' hi' mx').run P w = .ok (l, h, mm) w := by
          refine run_sliceBounds ?_ ?_ ?_
          · rcases r1 with ⟨_, b2, b3⟩ | ⟨k2, i2, b1, b2, b3, b4, _⟩
            · exact .inl ⟨b2, b3⟩
            · exact .inr ⟨k2, i2, b1, b2, b3, b4⟩
          · rcases r2 with ⟨b1, b2, b3⟩ | ⟨k2, i2, b1, b2, b3, b4, _⟩
            · rcases r1 with ⟨_, c2, _⟩ | ⟨_, _, _, _, _, _, c⟩
              · exact .inl ⟨b2, c2, b3⟩
              · rw [b1] at hmh; simp [c] at hmh
            · exact .inr ⟨k2, i2, b1, b2, b3, b4⟩
          · rcases r3 with ⟨_, b2, b3⟩ | ⟨k2, i2, b1, b2, b3, b4, _⟩
            · exact .inl ⟨b2, b3⟩
            · exact .inr ⟨k2, i2, b1, b2, b3, b4⟩
        have hmm : mm ≤ n := by rcases r1 with ⟨_, _, _⟩ | ⟨_, _, _, _, _, _, _⟩ <;> omega
        have hlh : l ≤ h := by rcases r3 with ⟨_, _, _⟩ | ⟨_, _, _, _, _, _, _⟩ <;> omega
        have hhm : h ≤ mm := by
          rcases r2 with ⟨b1, b2, b3⟩ | ⟨k2, i2, b1, b2, b3, b4, _⟩
          · rcases r1 with ⟨_, _, c⟩ | ⟨_, _, _, _, _, _, c⟩
            · omega
            · rw [b1] at hmh; simp [c] at hmh
          · omega
        obtain ⟨b1, o1, l1, c, E, lo0, hi1, q1, q2, q3, q4, q5, q6, q7, q8⟩ := hw.rows _ _ _ _ _ g1
        rw [hr] at q1
        cases q1
        refine ⟨m, .slice (some (if mm = l then ⟨b, o + off, none⟩ else (⟨b, o + off, none⟩ : Addr).add (l * i.size))) (h - l) (mm - l), w, Ren.le_refl m, ?_, ?_, by rw [g2]; exact hw⟩
        · simp [Instr.sliceAt, run_underlying hu, Instr.sureAddr, hb, run_sizeOf' hi0]
        · rw [add_lit, add_lit]
          split
          · exact .slice hr (.inl ⟨by omega, by omega⟩)
          · refine .slice hr (.inr ⟨by rw [Nat.add_assoc], by omega, ?_⟩)
            have : l * i.size + (mm - l) * i.size = mm * i.size := by rw [← Nat.add_mul]; congr 1; omega
            have : mm * i.size ≤ n * i.size := Nat.mul_le_mul_right _ hmm
            have := hcl.1
            simp only at this
            omega
      · exact (fail_some h12).elim

end
end Vx
end

section
/- A virtual executor of the model's programs: append. Conditions: none beyond the program's tables. -/
namespace Vx
open Go Go.RowKit

section
variable {P : Program} {T : Nat → Option Value} {w0 : World}

/-- Cells stored one behind the other into room that is there. -/
theorem storeCells_wrote : ∀ (l : List Value) (w : World) (b x i : Nat) (c : Array Value) (E : TypeId) (lo hi : Nat), w.heap[b]? = some (.cells c E (lo, hi)) → x + i + l.length ≤ c.size →
    (∀ j, x + i ≤ j → j < x + i + l.length → ¬(lo ≤ j ∧ j < hi)) → (∀ v ∈ l, plainV v = true) →
    ∃ w' c', (storeCells ⟨b, x, none⟩ l i).run P w = .ok () w' ∧ w'.os = w.os ∧ w'.tape = w.tape ∧ w'.output = w.output ∧ w'.heap.size = w.heap.size ∧ (∀ j, j ≠ b → w'.heap[j]? = w.heap[j]?) ∧
      w'.heap[b]? = some (.cells c' E (lo, hi)) ∧ c'.size = c.size ∧ (∀ j : Nat, c'[j]? = if x + i ≤ j ∧ j < x + i + l.length then l[j - (x + i)]? else c[j]?) := by
  intro l
  induction l with
  | nil =>
    intro w b x i c E lo hi hb hs hfz hp
    refine ⟨w, c, rfl, rfl, rfl, rfl, rfl, fun _ _ => rfl, hb, rfl, fun j => ?_⟩
    rw [if_neg (by simp only [List.length_nil]; omega)]
  | cons v l ih =>
    intro w b x i c E lo hi hb hs hfz hp
    simp only [List.length_cons] at hs hfz
    have hcell : w.cell? ⟨b, x + i, none⟩ = some c[x + i] := by simp [World.cell?, hb, Array.getElem?_eq_getElem (show x + i < c.size by omega)]
    have hfr : w.frozen? ⟨b, x + i, none⟩ = false := by
      have := hfz (x + i) (Nat.le_refl _) (by omega)
      simp only [World.frozen?, hb]
      simp
      omega
    have h1 : (store ((⟨b, x, none⟩ : Addr).add i) v).run P w = .ok () (w.setCell ⟨b, x + i, none⟩ v) := by
      rw [add_lit, run_store _ _ _ _ _ (by rw [← plain_oneCell]; exact hp v (by simp)), hcell]
      simp [hfr]
    have hb1 : (w.setCell ⟨b, x + i, none⟩ v).heap[b]? = some (.cells (c.setIfInBounds (x + i) v) E (lo, hi)) := by simp [World.setCell, Array.getElem?_modify, hb]
    obtain ⟨w', c', r1, r2, r3, r4, r5, r6, r7, r8, r9⟩ := ih (w.setCell ⟨b, x + i, none⟩ v) b x (i + 1) _ E lo hi hb1 (by simp; omega) (fun j a b => hfz j (by omega) (by omega)) (fun u hu => hp u (by simp [hu]))
    refine ⟨w', c', ?_, r2, r3, r4, by rw [r5]; simp [World.setCell], fun j hj => ?_, r7, by rw [r8]; simp, fun j => ?_⟩
    · unfold storeCells
      rw [Sem.run_bind, h1]
      exact r1
    · rw [r6 j hj]
      simp only [World.setCell, Array.getElem?_modify]
      rw [if_neg (Ne.symm hj)]
    · rw [r9 j]
      simp only [List.length_cons]
      by_cases hj : j = x + i
      · subst hj
        rw [if_neg (by omega), if_pos (by omega), Array.getElem?_setIfInBounds, if_pos rfl, if_pos (by omega)]
        simp
      · by_cases hin : x + (i + 1) ≤ j ∧ j < x + (i + 1) + l.length
        · rw [if_pos hin, if_pos (by omega)]
          have : j - (x + i) = (j - (x + (i + 1))) + 1 := by omega
          rw [this, List.getElem?_cons_succ]
        · rw [if_neg hin, if_neg (by omega), Array.getElem?_setIfInBounds, if_neg (Ne.symm hj)]

/-- Cells read, virtually: the model reads cells that they stand for. -/
theorem rdCells_some {m : Ren} {a a' : Addr} {n : Nat} {l : List Value} {s s' : VS} {w : World} (hx : rdCells a n s = some (l, s')) (hw : HR T w0 m s.g w) (ha : 0 < n → AdR T m a a') :
    s'.g = s.g ∧ l.length = n ∧ ∃ c', (loadCells a' n).run P w = .ok c' w ∧ LRel T m l c'.toList := by
  unfold rdCells at hx
  split at hx
  · rename_i h0
    subst h0
    obtain ⟨rfl, rfl⟩ := ret_some hx
    exact ⟨rfl, rfl, #[], rfl, LRel.nil m⟩
  · rename_i h0
    obtain ⟨ob, s1, h1, h2⟩ := bind_some hx
    obtain ⟨h3, h4⟩ := rd_some h1
    cases ob <;> try exact (fail_some h2).elim
    rename_i cs e f st
    simp only at h2
    split at h2
    · exact (fail_some h2).elim
    · rename_i hc
      obtain ⟨rfl, rfl⟩ := ret_some h2
      obtain ⟨r, off, b, o, el, hr, rfl, rfl⟩ := (ha (by omega)).cases
      simp only at h3 hc ⊢
      have hlen : off + n ≤ cs.length := by simp at hc; omega
      have key : ∀ (k i : Nat) (acc acc' : Array Value), i + k = n → ARel T m acc acc' → ∃ c', (loadCellsFrom ⟨b, o + off, none⟩ i k acc').run P w = .ok c' w ∧ LRel T m (acc.toList ++ (cs.drop (off + i)).take k) c'.toList := by
        intro k
        induction k with
        | zero => intro i acc acc' hi hacc; exact ⟨acc', rfl, by unfold ARel at hacc; simpa using hacc⟩
        | succ k ih =>
          intro i acc acc' hi hacc
          have hix : off + i < cs.length := by omega
          obtain ⟨v', c1, c2⟩ := hw.cell h3 hr (List.getElem?_eq_getElem hix)
          obtain ⟨c', q1, q2⟩ := ih (i + 1) (acc.push cs[off + i]) (acc'.push v') (by omega) (hacc.push c2)
          refine ⟨c', ?_, ?_⟩
          · unfold loadCellsFrom
            rw [Sem.run_bind, add_lit, run_load, Nat.add_assoc, c1]
            exact q1
          · rw [Array.toList_push] at q2
            rw [List.drop_eq_getElem_cons hix, List.take_succ_cons]
            simpa [Nat.add_assoc] using q2
      obtain ⟨c', q1, q2⟩ := key n 0 #[] #[] (by omega) (ARel.empty m)
      exact ⟨h4, by simp; omega, c', q1, by simpa using q2⟩

theorem LRel.plain {m : Ren} {l l' : List Value} (h : LRel T m l l') (hp : ∀ v ∈ l, plainV v = true) : ∀ v ∈ l', plainV v = true := by
  intro v hv
  obtain ⟨i, hi, rfl⟩ := List.getElem_of_mem hv
  rw [← (h.2 i (by rw [h.1]; exact hi) hi).plain]
  exact hp _ (List.getElem_mem _)

theorem byteVals_length (l : List UInt8) : (byteVals l).length = l.length := by simp [byteVals]

/-- What is appended: how many, and the model's own cells. -/
theorem vappended_some (hz : ZeroOk P) {m : Ren} {elem : TypeId} {i : TypeInfo} (hi : P.info? elem = some i) {zeros : Bool} {x x' : Value} (hxx : VRel T m x x') {n : Nat} {new : List Value} {s s' : VS} {w : World}
    (hx : vappended P elem i.size zeros x s = some ((n, new), s')) (hw : HR T w0 m s.g w) :
    s'.g = s.g ∧ ∃ c', LRel T m new c'.toList ∧
      (if zeros = true then ∃ k q, x' = .int k q ∧ 0 ≤ q ∧ q ≤ 2 ^ 20 ∧ n = q.toNat ∧ ∃ z, i.zero = some z ∧ c' = Builtin.zeroCells z.cells n
       else (Builtin.lenOf x').run P w = .ok n w ∧ (Builtin.firstCells i.size n x').run P w = .ok c' w) := by
  unfold vappended at hx
  split at hx
  · rename_i hzs
    cases x <;> try exact (fail_some hx).elim
    rename_i k q
    cases hxx
    simp only at hx
    split at hx
    · rename_i hq
      obtain ⟨z, s1, h1, h2⟩ := bind_some hx
      obtain ⟨rfl, j, hj, hzz, htt⟩ := tzero_some h1
      rw [hi] at hj
      cases hj
      obtain ⟨hn, rfl⟩ := ret_some h2
      simp only [Prod.mk.injEq] at hn
      obtain ⟨rfl, rfl⟩ := hn
      have hzo := hz _ _ _ htt hi hzz
      refine ⟨rfl, Builtin.zeroCells z.cells q.toNat, ?_, by rw [if_pos hzs]; exact ⟨k, q, rfl, hq.1, hq.2, rfl, z, hzz, rfl⟩⟩
      have hzr := zcells_rel (T := T) (m := m) hzo.1
      refine ⟨by rw [replicate_length]; simp [Builtin.zeroCells], fun k hk hk' => ?_⟩
      have hk2 : k < q.toNat * z.cells.toList.length := by rw [replicate_length] at hk; exact hk
      have e1 := replicate_get q.toNat z.cells.toList k hk2
      rw [List.getElem?_eq_getElem hk] at e1
      have hpos : 0 < z.cells.size := by
        rcases Nat.eq_zero_or_pos z.cells.size with h | h
        · simp [h] at hk2
        · exact h
      have hmod : k % z.cells.toList.length < z.cells.toList.length := Nat.mod_lt _ (by simpa using hpos)
      rw [List.getElem?_eq_getElem hmod] at e1
      injection e1 with e1
      rw [e1]
      simp only [Builtin.zeroCells, Array.getElem_toList, Array.getElem_map, Array.getElem_range, Array.length_toList]
      have := hzr.at! (k % z.cells.size)
      rw [getElem!_pos z.cells _ (by simpa using hmod)] at this
      rw [getElem!_pos z.cells _ (by simpa using hmod)]
      exact this
    · exact (fail_some hx).elim
  · rename_i hzs
    cases x <;> try exact (fail_some hx).elim
    · -- a string
      rename_i str
      cases hxx
      obtain ⟨hn, rfl⟩ := ret_some hx
      simp only [Prod.mk.injEq] at hn
      obtain ⟨rfl, rfl⟩ := hn
      have hfc : (Builtin.firstCells i.size str.size (.string str)).run P w = .ok (str.data.map fun b => Value.int .u8 b.toNat) w := by
        have : str.extract 0 str.size = str := by simp
        simp only [Builtin.firstCells, this]
        rfl
      refine ⟨rfl, str.data.map fun b => .int .u8 b.toNat, ?_, by rw [if_neg hzs]; exact ⟨rfl, hfc⟩⟩
      · have : (byteVals str.data.toList) = (str.data.map fun b => Value.int .u8 b.toNat).toList := by simp [byteVals]
        rw [this]
        exact ⟨rfl, fun i hi _ => by
          rw [Array.getElem_toList, Array.getElem_map]
          exact .int _ _⟩
    · -- a slice
      rename_i a len z
      cases a with
      | none =>
        obtain ⟨hn, rfl⟩ := ret_some hx
        simp only [Prod.mk.injEq] at hn
        obtain ⟨rfl, rfl⟩ := hn
        cases hxx
        exact ⟨rfl, #[], LRel.nil m, by rw [if_neg hzs]; exact ⟨rfl, rfl⟩⟩
      | some a =>
        obtain ⟨l, s1, h1, h2⟩ := bind_some hx
        obtain ⟨hn, rfl⟩ := ret_some h2
        simp only [Prod.mk.injEq] at hn
        obtain ⟨rfl, rfl⟩ := hn
        cases hxx
        rename_i r off b o e x cap hr hxx
        obtain ⟨q1, q2, c', q3, q4⟩ := rdCells_some (P := P) (a' := ⟨b, x, none⟩) h1 hw (fun h0 => by
          rcases hxx with ⟨h, _⟩ | ⟨rfl, _, _⟩
          · rw [h] at h0; simp at h0
          · exact .mk hr)
        exact ⟨q1, c', q4, by rw [if_neg hzs]; exact ⟨rfl, q3⟩⟩

end
end Vx
end
