/- A virtual executor of the model's programs, part 4 of 4. Conditions: as each section says. -/
import Derived.Test.YtjdaalpcehnlbaaGreatDoorVxPart2
import Derived.Scope
import Derived.Lay
import Derived.LaidLaws

section
/- A virtual executor of the model's programs: what a part of a run touches, and that it depends on nothing else. Conditions: none. -/
set_option linter.unusedVariables false
set_option linter.unusedSimpArgs false
namespace Vx
open Go Go.RowKit

def hit (L : List Nat) (k : Nat) : Prop := 2 * k ∈ L ∨ 2 * k + 1 ∈ L

/-- What a tracked run touches is in its log; it depends on that alone, and changes what it says it wrote. -/
structure Fr {α : Type} (x : VM α) : Prop where
  run : ∀ (s : VS) (a : α) (s' : VS), x s = some (a, s') → s.trk = true → ∃ L, s'.log = L ++ s.log ∧ s'.trk = true ∧ (∀ k, 2 * k + 1 ∉ L → s'.g k = s.g k) ∧
    ∀ t : VS, t.cnt = s.cnt → t.trk = true → (∀ k, hit L k → t.g k = s.g k) → ∃ t', x t = some (a, t') ∧ t'.cnt = s'.cnt ∧ t'.trk = true ∧ t'.log = L ++ t.log ∧
      (∀ k, 2 * k + 1 ∈ L → t'.g k = s'.g k) ∧ ∀ k, 2 * k + 1 ∉ L → t'.g k = t.g k

theorem Fr.ret {α : Type} (a : α) : Fr (VM.ret a) := by
  refine ⟨fun s b s' h ht => ?_⟩
  obtain ⟨rfl, rfl⟩ := ret_some h
  exact ⟨[], rfl, ht, fun _ _ => rfl, fun t hc htr _ => ⟨t, rfl, hc, htr, rfl, fun k hk => by simp at hk, fun _ _ => rfl⟩⟩
theorem Fr.fail {α : Type} (n : Nat) : Fr (VM.fail n : VM α) := ⟨fun s b s' h ht => (fail_some h).elim⟩
theorem Fr.bind {α β : Type} {x : VM α} {f : α → VM β} (hx : Fr x) (hf : ∀ a, Fr (f a)) : Fr (VM.bind x f) := by
  refine ⟨fun s b s' h ht => ?_⟩
  obtain ⟨a, s1, h1, h2⟩ := bind_some h
  obtain ⟨L1, p1, p2, p3, p4⟩ := hx.run _ _ _ h1 ht
  obtain ⟨L2, q1, q2, q3, q4⟩ := (hf a).run _ _ _ h2 p2
  refine ⟨L2 ++ L1, by rw [q1, p1, List.append_assoc], q2, fun k hk => ?_, fun t hc htr hag => ?_⟩
  · simp only [List.mem_append, not_or] at hk
    rw [q3 k hk.1, p3 k hk.2]
  · obtain ⟨t1, a1, a2, a3, a4, a5, a6⟩ := p4 t hc htr fun k hk => hag k (by unfold hit at hk ⊢; simp only [List.mem_append]; rcases hk with hk | hk; exact .inl (.inr hk); exact .inr (.inr hk))
    obtain ⟨t2, b1, b2, b3, b4, b5, b6⟩ := q4 t1 a2 a3 fun k hk => by
      by_cases hk1 : 2 * k + 1 ∈ L1
      · exact a5 k hk1
      · rw [a6 k hk1, p3 k hk1]
        exact hag k (by unfold hit at hk ⊢; simp only [List.mem_append]; rcases hk with hk | hk; exact .inl (.inl hk); exact .inr (.inl hk))
    refine ⟨t2, ?_, b2, b3, by rw [b4, a4, List.append_assoc], fun k hk => ?_, fun k hk => ?_⟩
    · simp only [VM.bind, a1, b1]
    · by_cases hk2 : 2 * k + 1 ∈ L2
      · exact b5 k hk2
      · have hk1 : 2 * k + 1 ∈ L1 := by simpa [hk2] using hk
        rw [b6 k hk2, a5 k hk1, q3 k hk2]
    · simp only [List.mem_append, not_or] at hk
      rw [b6 k hk.1, a6 k hk.2]
theorem Fr.lift {α : Type} (x : Option α) : Fr (Vx.lift x) := by
  cases x with
  | none => exact Fr.fail (α := α) 0
  | some a => exact Fr.ret a

theorem touch_true {s : VS} (h : s.trk = true) (n : Nat) : touch s n = { s with log := n :: s.log } := by simp [touch, h]

theorem Fr.rd (k : Nat) : Fr (Vx.rd k) := by
  refine ⟨fun s b s' h ht => ?_⟩
  unfold Vx.rd at h
  split at h
  · cases h
  · rename_i o ho
    cases h
    rw [touch_true ht]
    refine ⟨[2 * k], rfl, ht, fun _ _ => rfl, fun t hc htr hag => ⟨{ t with log := 2 * k :: t.log }, ?_, hc, htr, rfl, fun j hj => ?_, fun _ _ => rfl⟩⟩
    · have := hag k (.inl (by simp))
      unfold Vx.rd
      have h2 : t.heap.get k = some b := by rw [show t.heap.get k = t.g k from rfl, this]; exact ho
      rw [h2]
      simp only [touch_true htr]
    · simp only [List.mem_singleton] at hj
      omega

theorem set_g (h : Tr) {k : Nat} (o : VO) (hk : k < far) : (Tr.set 64 h k o).get = upd h.get k o := by
  funext j
  exact Tr.get_set 64 h k o (far_fuel hk) j

theorem Fr.wr (k : Nat) (o : VO) : Fr (Vx.wr k o) := by
  refine ⟨fun s b s' h ht => ?_⟩
  unfold Vx.wr at h
  split at h
  · rename_i hf
    split at h
    · cases h
    · rename_i o' ho
      cases h
      rw [touch_true (s := { s with heap := Tr.set 64 s.heap k o }) ht]
      refine ⟨[2 * k + 1], rfl, ht, fun j hj => ?_, fun t hc htr hag => ⟨{ t with heap := Tr.set 64 t.heap k o, log := (2 * k + 1) :: t.log }, ?_, hc, htr, rfl, fun j hj => ?_, fun j hj => ?_⟩⟩
      · show (Tr.set 64 s.heap k o).get j = s.heap.get j
        rw [set_g _ _ hf]
        exact upd_other _ _ (by simp only [List.mem_singleton] at hj; omega)
      · have := hag k (.inr (by simp))
        unfold Vx.wr
        have h2 : t.heap.get k = some o' := by rw [show t.heap.get k = t.g k from rfl, this]; exact ho
        rw [if_pos hf, h2]
        simp only [touch_true (s := { t with heap := Tr.set 64 t.heap k o }) htr]
      · have : j = k := by simp only [List.mem_singleton] at hj; omega
        subst this
        show (Tr.set 64 t.heap j o).get j = (Tr.set 64 s.heap j o).get j
        rw [set_g _ _ hf, set_g _ _ hf, upd_same, upd_same]
      · show (Tr.set 64 t.heap k o).get j = t.heap.get j
        rw [set_g _ _ hf]
        exact upd_other _ _ (by simp only [List.mem_singleton] at hj; omega)
  · cases h

theorem Fr.nw (o : VO) : Fr (Vx.nw o) := by
  refine ⟨fun s b s' h ht => ?_⟩
  unfold Vx.nw at h
  split at h
  · rename_i hf
    split at h
    · cases h
    · rename_i ho
      cases h
      rw [touch_true (s := { s with heap := Tr.set 64 s.heap s.cnt o, cnt := s.cnt + 1 }) ht]
      refine ⟨[2 * s.cnt + 1], rfl, ht, fun j hj => ?_, fun t hc htr hag => ⟨{ t with heap := Tr.set 64 t.heap s.cnt o, cnt := s.cnt + 1, log := (2 * s.cnt + 1) :: t.log }, ?_, rfl, htr, rfl, fun j hj => ?_, fun j hj => ?_⟩⟩
      · show (Tr.set 64 s.heap s.cnt o).get j = s.heap.get j
        rw [set_g _ _ hf]
        exact upd_other _ _ (by simp only [List.mem_singleton] at hj; omega)
      · have := hag s.cnt (.inr (by simp))
        unfold Vx.nw
        have h2 : t.heap.get s.cnt = none := by rw [show t.heap.get s.cnt = t.g s.cnt from rfl, this]; exact ho
        rw [hc, if_pos hf, h2]
        simp only [touch_true (s := { t with heap := Tr.set 64 t.heap s.cnt o, cnt := s.cnt + 1 }) htr]
      · have : j = s.cnt := by simp only [List.mem_singleton] at hj; omega
        subst this
        show (Tr.set 64 t.heap s.cnt o).get s.cnt = (Tr.set 64 s.heap s.cnt o).get s.cnt
        rw [set_g _ _ hf, set_g _ _ hf, upd_same, upd_same]
      · show (Tr.set 64 t.heap s.cnt o).get j = t.heap.get j
        rw [set_g _ _ hf]
        exact upd_other _ _ (by simp only [List.mem_singleton] at hj; omega)
  · cases h

theorem within_some {α : Type} {x : VM α} {s s' : VS} {p : α × List Nat} (h : within x s = some (p, s')) :
    ∃ s1, x { s with trk := true, log := [] } = some (p.1, s1) ∧ p.2 = s1.log ∧ s' = { s1 with trk := s.trk, log := if s.trk then s1.log ++ s.log else s.log } := by
  unfold within at h
  split at h
  · cases h
  · rename_i a s1 h1
    cases h
    exact ⟨s1, h1, rfl, rfl⟩

theorem Fr.within {α : Type} {x : VM α} (hx : Fr x) : Fr (Vx.within x) := by
  refine ⟨fun s b s' h ht => ?_⟩
  obtain ⟨s1, h1, h2, rfl⟩ := within_some h
  obtain ⟨L, p1, p2, p3, p4⟩ := hx.run _ _ _ h1 rfl
  simp only [List.append_nil] at p1
  refine ⟨L, by simp [ht, p1], ht, fun k hk => p3 k hk, fun t hc htr hag => ?_⟩
  obtain ⟨t1, a1, a2, a3, a4, a5, a6⟩ := p4 { t with trk := true, log := [] } hc rfl hag
  simp only [List.append_nil] at a4
  refine ⟨{ t1 with trk := t.trk, log := if t.trk then t1.log ++ t.log else t.log }, ?_, a2, htr, by simp [htr, a4], a5, a6⟩
  unfold Vx.within
  rw [a1]
  simp only
  obtain ⟨b1, b2⟩ := b
  simp only at h2 ⊢
  rw [h2, a4, p1]

end Vx
end

section
/- A virtual executor of the model's programs: every part of it touches what it says. Conditions: none. -/
set_option linter.unusedVariables false
set_option linter.unusedSimpArgs false
namespace Vx
open Go Go.RowKit

section
variable {P : Program}

theorem Fr.rdCell (a : Addr) : Fr (Vx.rdCell a) := by
  unfold Vx.rdCell
  refine Fr.bind (Fr.rd _) fun o => ?_
  split
  · split
    · exact Fr.fail _
    · exact Fr.lift _
  · exact Fr.fail _

theorem Fr.killAll : ∀ l : List (Nat × Nat × Nat), Fr (Vx.killAll l)
  | [] => Fr.ret _
  | (n, _, _) :: l => by
    unfold Vx.killAll
    refine Fr.bind (Fr.rd _) fun o => ?_
    split
    · exact Fr.bind (Fr.wr _ _) fun _ => Fr.killAll l
    · exact Fr.killAll l
    · exact Fr.fail _

theorem Fr.kill (f : Nat) (bad : Nat → Nat → Nat → Bool) : Fr (Vx.kill f bad) := by
  unfold Vx.kill
  refine Fr.bind (Fr.rd _) fun o => ?_
  split
  · split
    · exact Fr.ret _
    · exact Fr.bind (Fr.killAll _) fun _ => Fr.wr _ _
  · exact Fr.fail _

theorem Fr.wrCell (a : Addr) (v : Value) : Fr (Vx.wrCell a v) := by
  unfold Vx.wrCell
  refine Fr.bind (Fr.rd _) fun o => ?_
  split
  · split
    · exact Fr.fail _
    · split
      · refine Fr.bind ?_ fun _ => Fr.wr _ _
        split
        · exact Fr.ret _
        · exact Fr.kill _ _
      · exact Fr.fail _
  · exact Fr.fail _

theorem Fr.vsem {α : Type} (t : Sem α) : Fr (Vx.vsem P t) := by
  induction t with
  | pure a => exact Fr.ret a
  | load c a k ih => exact Fr.bind (Fr.rdCell _) fun v => ih v
  | store c a v k ih =>
    cases v <;> first | exact Fr.fail (α := α) 0 | exact Fr.bind (Fr.wrCell _ _) fun _ => ih
  | new o k ih =>
    cases o with
    | cells c e fz =>
      simp only [Vx.vsem]
      split
      · exact Fr.bind (Fr.nw _) fun r => ih r
      · exact Fr.fail _
    | pending _ _ => exact Fr.fail (α := α) 0
    | _ => exact Fr.bind (Fr.nw _) fun r => ih r
  | shape r k ih => exact Fr.fail (α := α) 0
  | freeze a n k ih => exact Fr.fail (α := α) 0
  | frozen a k ih => exact Fr.fail (α := α) 0
  | getObj r k ih =>
    simp only [Vx.vsem]
    refine Fr.bind (Fr.rd _) fun o => ?_
    split
    · exact ih _
    · exact Fr.fail _
  | setObj r o k ih =>
    simp only [Vx.vsem]
    refine Fr.bind (Fr.rd _) fun o => ?_
    split
    · exact Fr.bind (Fr.wr _ _) fun _ => ih
    · exact Fr.fail _
  | choose q k ih =>
    simp only [Vx.vsem]
    split
    · exact ih _
    · exact Fr.fail _
  | sys _ _ _ => exact Fr.fail (α := α) 0
  | program k ih => exact ih P
  | mark _ k ih => exact ih
  | halt _ => exact Fr.fail (α := α) 0

theorem Fr.vpure {α : Type} (t : Sem α) : Fr (Vx.vpure P t) := by
  unfold Vx.vpure
  split
  · exact Fr.ret _
  · exact Fr.fail _

theorem Fr.vpureV (t : Sem Value) : Fr (Vx.vpureV P t) := by
  unfold Vx.vpureV
  refine Fr.bind (Fr.vpure _) fun v => ?_
  split
  · exact Fr.ret _
  · exact Fr.fail _

theorem Fr.tsize (t : TypeId) : Fr (Vx.tsize P t) := Fr.lift _
theorem Fr.tbytes (t : TypeId) : Fr (Vx.tbytes P t) := Fr.lift _
theorem Fr.tzero (t : TypeId) : Fr (Vx.tzero P t) := by
  unfold Vx.tzero
  split
  · exact Fr.lift _
  · exact Fr.fail _
theorem Fr.tunder (t : TypeId) : Fr (Vx.tunder P t) := Fr.lift _
theorem Fr.tsliceElem (t : TypeId) : Fr (Vx.tsliceElem P t) := by
  unfold Vx.tsliceElem
  refine Fr.bind (Fr.tunder _) fun o => ?_
  split
  · exact Fr.ret _
  · exact Fr.fail _
theorem Fr.vint (v : Value) : Fr (Vx.vint v) := by
  unfold Vx.vint
  split
  · exact Fr.ret _
  · exact Fr.fail _
theorem Fr.vbound (n : Nat) (v : Option Value) (d : Nat) : Fr (Vx.vbound n v d) := by
  unfold Vx.vbound
  split
  · exact Fr.ret _
  · split
    · exact Fr.ret _
    · exact Fr.fail _
  · exact Fr.fail _
theorem Fr.newSliceRow (l : List Value) (e : TypeId) : Fr (Vx.newSliceRow l e) := by
  unfold Vx.newSliceRow
  refine Fr.bind (Fr.nw _) fun f => Fr.bind (Fr.nw _) fun r => Fr.bind ?_ fun _ => Fr.ret _
  split
  · exact Fr.fail _
  · exact Fr.wr _ _
theorem Fr.rdCells (a : Addr) (n : Nat) : Fr (Vx.rdCells a n) := by
  unfold Vx.rdCells
  split
  · exact Fr.ret _
  · refine Fr.bind (Fr.rd _) fun o => ?_
    split
    · split
      · exact Fr.fail _
      · exact Fr.ret _
    · exact Fr.fail _

theorem Fr.vbuildSlice (t : TypeId) (n : Nat) (ps : Array (Nat × Value)) : Fr (Vx.vbuildSlice P t n ps) := by
  unfold Vx.vbuildSlice
  repeat' first | exact Fr.ret _ | exact Fr.fail _ | exact Fr.lift _ | exact Fr.tsliceElem _ | exact Fr.tsize _ | exact Fr.tzero _ | exact Fr.newSliceRow _ _ | refine Fr.bind ?_ fun _ => ?_ | split
theorem Fr.vmakeSlice (t : TypeId) (l c : Value) : Fr (Vx.vmakeSlice P t l c) := by
  unfold Vx.vmakeSlice
  repeat' first | exact Fr.ret _ | exact Fr.fail _ | exact Fr.lift _ | exact Fr.tsliceElem _ | exact Fr.tsize _ | exact Fr.tzero _ | exact Fr.tbytes _ | exact Fr.vint _ | exact Fr.newSliceRow _ _ | refine Fr.bind ?_ fun _ => ?_ | split
theorem Fr.vslice (t : TypeId) (x : Value) (l h m : Option Value) : Fr (Vx.vslice P t x l h m) := by
  unfold Vx.vslice
  repeat' first | exact Fr.ret _ | exact Fr.fail _ | exact Fr.lift _ | exact Fr.tunder _ | exact Fr.tsize _ | exact Fr.vbound _ _ _ | exact Fr.rd _ | refine Fr.bind ?_ fun _ => ?_ | split
theorem Fr.vappended (e : TypeId) (n : Nat) (z : Bool) (x : Value) : Fr (Vx.vappended P e n z x) := by
  unfold Vx.vappended
  repeat' first | exact Fr.ret _ | exact Fr.fail _ | exact Fr.lift _ | exact Fr.tzero _ | exact Fr.rdCells _ _ | refine Fr.bind ?_ fun _ => ?_ | split
theorem Fr.vzeros (o : Option TypeId) : Fr (Vx.vzeros P o) := by
  unfold Vx.vzeros
  repeat' first | exact Fr.ret _ | exact Fr.fail _ | exact Fr.tunder _ | refine Fr.bind ?_ fun _ => ?_ | split
theorem Fr.vgrow (a : Addr) (l s n : Nat) (e : TypeId) (new : List Value) : Fr (Vx.vgrow a l s n e new) := by
  unfold Vx.vgrow
  repeat' first | exact Fr.ret _ | exact Fr.fail _ | exact Fr.rd _ | exact Fr.wr _ _ | exact Fr.nw _ | exact Fr.kill _ _ | refine Fr.bind ?_ fun _ => ?_ | split
theorem Fr.vappend (ts : Array TypeId) (s x : Value) : Fr (Vx.vappend P ts s x) := by
  unfold Vx.vappend
  repeat' first | exact Fr.ret _ | exact Fr.fail _ | exact Fr.lift _ | exact Fr.tsliceElem _ | exact Fr.tsize _ | exact Fr.tzero _ | exact Fr.tbytes _ | exact Fr.vzeros _ | exact Fr.vappended _ _ _ _ | exact Fr.vgrow _ _ _ _ _ _ | exact Fr.newSliceRow _ _ | refine Fr.bind ?_ fun _ => ?_ | split
theorem Fr.vconvert (s d : TypeId) (x : Value) : Fr (Vx.vconvert P s d x) := by
  unfold Vx.vconvert
  repeat' first | exact Fr.ret _ | exact Fr.fail _ | exact Fr.lift _ | exact Fr.tunder _ | exact Fr.rdCells _ _ | exact Fr.vpureV _ | exact Fr.newSliceRow _ _ | refine Fr.bind ?_ fun _ => ?_ | split
theorem Fr.vbin (orc : Orc) (op : BinOp) (t : TypeId) (x y : Operand) (a b : Value) : Fr (Vx.vbin P orc op t x y a b) := by
  unfold Vx.vbin
  repeat' first | exact Fr.ret _ | exact Fr.fail _ | exact Fr.lift _ | exact Fr.tunder _ | exact Fr.tsize _ | exact Fr.vpureV _ | refine Fr.bind ?_ fun _ => ?_ | split
theorem Fr.vtarget (t : Target) (a : Array Value) : Fr (Vx.vtarget P t a) := by
  unfold Vx.vtarget
  repeat' first | exact Fr.ret _ | exact Fr.fail _ | exact Fr.lift _ | refine Fr.bind ?_ fun _ => ?_ | split
theorem Fr.vfind (k : TypeId) (v : Value) (es : List MapEntry) (b : Bool) : Fr (Vx.vfind P k v es b) := by
  unfold Vx.vfind
  repeat' first | exact Fr.ret _ | exact Fr.fail _ | exact Fr.vpure _ | refine Fr.bind ?_ fun _ => ?_ | split
theorem Fr.rdMap (r : Nat) : Fr (Vx.rdMap r) := by
  unfold Vx.rdMap
  repeat' first | exact Fr.ret _ | exact Fr.fail _ | exact Fr.rd _ | refine Fr.bind ?_ fun _ => ?_ | split
theorem Fr.tmap (t : TypeId) : Fr (Vx.tmap P t) := by
  unfold Vx.tmap
  repeat' first | exact Fr.ret _ | exact Fr.fail _ | exact Fr.tunder _ | refine Fr.bind ?_ fun _ => ?_ | split
theorem Fr.vlookup (t : TypeId) (x k : Value) (ok : Bool) : Fr (Vx.vlookup P t x k ok) := by
  unfold Vx.vlookup
  repeat' first | exact Fr.ret _ | exact Fr.fail _ | exact Fr.lift _ | exact Fr.tmap _ | exact Fr.rdMap _ | exact Fr.vfind _ _ _ _ | exact Fr.tzero _ | refine Fr.bind ?_ fun _ => ?_ | split
theorem Fr.vmapUpdate (t : TypeId) (x k v : Value) : Fr (Vx.vmapUpdate P t x k v) := by
  unfold Vx.vmapUpdate
  repeat' first | exact Fr.ret _ | exact Fr.fail _ | exact Fr.lift _ | exact Fr.tmap _ | exact Fr.rdMap _ | exact Fr.vfind _ _ _ _ | exact Fr.vpure _ | exact Fr.wr _ _ | refine Fr.bind ?_ fun _ => ?_ | split
theorem Fr.vdelete (ts : Array TypeId) (x k : Value) : Fr (Vx.vdelete P ts x k) := by
  unfold Vx.vdelete
  repeat' first | exact Fr.ret _ | exact Fr.fail _ | exact Fr.lift _ | exact Fr.tmap _ | exact Fr.rdMap _ | exact Fr.vfind _ _ _ _ | exact Fr.vpure _ | exact Fr.wr _ _ | refine Fr.bind ?_ fun _ => ?_ | split
theorem Fr.vbuiltin (b : Builtin) (ts : Array TypeId) (ty : TypeId) (a : Array Value) : Fr (Vx.vbuiltin P b ts ty a) := by
  unfold Vx.vbuiltin
  repeat' first | exact Fr.ret _ | exact Fr.fail _ | exact Fr.lift _ | exact Fr.tsliceElem _ | exact Fr.vappend _ _ _ | exact Fr.vdelete _ _ _ | exact Fr.vsem _ | exact Fr.vpureV _ | refine Fr.bind ?_ fun _ => ?_ | split

theorem Fr.vop (orc : Orc) (ρ : Operand → Value) (o : Oper) : Fr (Vx.vop P orc ρ o) := by
  unfold Vx.vop
  dsimp only
  repeat' first | exact Fr.ret _ | exact Fr.fail _ | exact Fr.vsem _ | exact Fr.vpureV _ | exact Fr.vbuildSlice _ _ _ | exact Fr.vmakeSlice _ _ _ | exact Fr.vslice _ _ _ _ _ | exact Fr.vconvert _ _ _ | exact Fr.vbin _ _ _ _ _ _ _ | exact Fr.vbuiltin _ _ _ _ | exact Fr.vtarget _ _ | exact Fr.vlookup _ _ _ _ | exact Fr.vmapUpdate _ _ _ _ | refine Fr.bind ?_ fun _ => ?_ | split

theorem Fr.vstep {orc : Orc} {ih : Task → VM Out} (hi : ∀ t, Fr (ih t)) (ops : Array Oper) (o : Oper) (tmps : List Value) : Fr (Vx.vstep P orc ih ops o tmps) := by
  unfold Vx.vstep
  repeat' first | exact Fr.ret _ | exact Fr.fail _ | exact Fr.vop _ _ _ | exact hi _ | refine Fr.bind ?_ fun _ => ?_ | split

theorem Fr.vops {orc : Orc} {ih : Task → VM Out} (hi : ∀ t, Fr (ih t)) (ops : Array Oper) : ∀ (l : List Oper) (tmps : List Value), Fr (Vx.vops P orc ih ops l tmps)
  | [], tmps => Fr.ret _
  | o :: l, tmps => by
    unfold Vx.vops
    exact Fr.bind (Fr.vstep hi ops o tmps) fun t => Fr.vops hi ops l t

theorem Fr.vopsD {orc : Orc} {ih : Task → VM Out} (hi : ∀ t, Fr (ih t)) (ops : Array Oper) : ∀ (l : List Oper) (tmps : List Value), Fr (Vx.vopsD P orc ih ops l tmps)
  | [], tmps => Fr.ret _
  | o :: l, tmps => by
    unfold Vx.vopsD
    exact Fr.bind (Fr.within (Fr.vstep hi ops o tmps)) fun t => Fr.bind (Fr.vopsD hi ops l t.1) fun _ => Fr.ret _

theorem Fr.vregion {orc : Orc} {ih : Task → VM Out} (hi : ∀ t, Fr (ih t)) (ops : Array Oper) (d : Bool) (tmps : List Value) : Fr (Vx.vregion P orc ih ops d tmps) := by
  unfold Vx.vregion
  repeat' first | exact Fr.ret _ | exact Fr.fail _ | exact Fr.vops hi _ _ _ | exact Fr.vopsD hi _ _ _ | refine Fr.bind ?_ fun _ => ?_ | split

theorem Fr.exStep {orc : Orc} {ih : Task → VM Out} (hi : ∀ t, Fr (ih t)) (t : Task) : Fr (Vx.exStep P orc ih t) := by
  unfold Vx.exStep
  repeat' first | exact Fr.ret _ | exact Fr.fail _ | exact Fr.lift _ | exact hi _ | exact Fr.vsem _ | exact Fr.vregion hi _ _ _ | refine Fr.bind ?_ fun _ => ?_ | split

theorem Fr.ex {orc : Orc} : ∀ (n : Nat) (t : Task), Fr (Vx.ex P orc n t)
  | 0, _ => Fr.fail _
  | n + 1, t => Fr.exStep (Fr.ex n) t

end
end Vx
end

section
/- A virtual executor of the model's programs: a region that draws its order, the parts. Conditions: none. -/
set_option linter.unusedVariables false
set_option linter.unusedSimpArgs false
namespace Vx
open Go Go.RowKit

section
variable {P : Program}

theorem map_same {ρ ρ' : Operand → Value} {a : Array Operand} (h : ∀ x ∈ a, ρ x = ρ' x) : a.map ρ = a.map ρ' := Array.map_congr_left h
theorem pairs_same {ρ ρ' : Operand → Value} {a : Array (Nat × Operand)} (h : ∀ x ∈ a, ρ x.2 = ρ' x.2) : (a.map fun (i, x) => (i, ρ x)) = a.map fun (i, x) => (i, ρ' x) :=
  Array.map_congr_left fun p hm => by
    obtain ⟨i, x⟩ := p
    have := h _ hm
    simp only at this ⊢
    rw [this]
theorem omap_same {ρ ρ' : Operand → Value} {a : Option Operand} (h : ∀ x, a = some x → ρ x = ρ' x) : a.map ρ = a.map ρ' := by
  cases a with
  | none => rfl
  | some x => simp [h x rfl]

theorem vop_congr {orc : Orc} {ρ ρ' : Operand → Value} (o : Oper) (h : ∀ x ∈ o.op.operands, ρ x = ρ' x) : vop P orc ρ o = vop P orc ρ' o := by
  have hexec : (∀ cs b, o.op ≠ .select cs b) → execOp ρ o = execOp ρ' o := fun hs => execOp_congr o hs h
  obtain ⟨dst, op, type, pos, after, guard⟩ := o
  simp only at h hexec
  have one : ∀ {x}, x ∈ op.operands → ρ x = ρ' x := fun hx => h _ hx
  clear h
  cases op with
  | buildSlice t len ps => simp only [vop]; rw [pairs_same fun x hx => one (by simp only [Op.operands]; simp; exact ⟨_, by simpa using hx⟩)]
  | makeSlice t l c => simp only [vop]; rw [one (x := l) (by simp [Op.operands]), one (x := c) (by simp [Op.operands])]
  | slice t x lo hi mx =>
    simp only [vop]
    rw [one (x := x) (by simp [Op.operands]), omap_same (a := lo) (fun y hy => one (by simp [Op.operands, hy])), omap_same (a := hi) (fun y hy => one (by simp [Op.operands, hy])), omap_same (a := mx) (fun y hy => one (by simp [Op.operands, hy]))]
  | convert s d x => simp only [vop]; rw [one (x := x) (by simp [Op.operands])]
  | binOp op t x y _ => simp only [vop]; rw [one (x := x) (by simp [Op.operands]), one (x := y) (by simp [Op.operands])]
  | unOp op t x => simp only [vop]; rw [one (x := x) (by simp [Op.operands])]
  | index t x i => simp only [vop]; rw [one (x := x) (by simp [Op.operands]), one (x := i) (by simp [Op.operands])]
  | lookup t x k ok => simp only [vop]; rw [one (x := x) (by simp [Op.operands]), one (x := k) (by simp [Op.operands])]
  | mapUpdate t x k v => simp only [vop]; rw [one (x := x) (by simp [Op.operands]), one (x := k) (by simp [Op.operands]), one (x := v) (by simp [Op.operands])]
  | call c =>
    simp only [vop]
    have hargs : c.args.map ρ = c.args.map ρ' := map_same fun x hx => one (by simp only [Op.operands, Call.operands]; split <;> simp [hx])
    rw [hargs]
    split
    · rfl
    · rename_i f hf
      rw [one (x := f) (by simp [Op.operands, Call.operands, hf])]
    · rfl
  | nilCheck x => simp only [vop]; rw [one (x := x) (by simp [Op.operands])]
  | makeFunc f a b =>
    cases f with
    | func f => simp only [vop]; rw [hexec (by intro _ _ h; cases h)]
    | _ => rfl
  | move | assign | pick | alloc | box | build | load | store | makeInterface | makeMap | fieldAddr | field | indexAddr | extract => simp only [vop]; rw [hexec (by intro _ _ h; cases h)]
  | _ => rfl

theorem putT_get (tmps : List Value) (dst : Option Tmp) (v : Value) (d : Nat) : (putT tmps dst v)[d]? = if dst = some d then tmps[d]?.map fun _ => v else tmps[d]? := by
  cases dst with
  | none => simp [putT]
  | some e =>
    simp only [putT, Option.some.injEq]
    rw [List.getElem?_set]
    by_cases hed : e = d
    · subst hed
      simp only [if_true]
      split
      · rename_i hlt; rw [List.getElem?_eq_getElem hlt]; rfl
      · rename_i hlt; rw [List.getElem?_eq_none (Nat.le_of_not_lt hlt)]; rfl
    · simp [hed]

theorem veval_same {tmps tmpsB : List Value} {x : Operand} (h : ∀ d, x = .tmp d → tmpsB[d]? = tmps[d]?) : veval tmpsB x = veval tmps x := by
  cases x with
  | tmp d => simp only [veval, List.getD_eq_getElem?_getD, h d rfl]
  | _ => rfl

theorem mem_readsT {ops : Array Oper} {o : Oper} {d : Tmp} (h : Operand.tmp d ∈ o.op.operands) : d ∈ readsT ops o :=
  List.mem_append_left _ (List.mem_filterMap.2 ⟨.tmp d, by simpa using h, rfl⟩)

/-- A step looks at few temporaries, and puts one. -/
theorem vstep_temps {orc : Orc} {ih : Task → VM Out} {ops : Array Oper} {o : Oper} {tmps tmps' : List Value} {s s' : VS} (h : vstep P orc ih ops o tmps s = some (tmps', s')) :
    ∃ v, tmps' = putT tmps o.dst v ∧ ∀ tmpsB : List Value, (∀ d ∈ readsT ops o, tmpsB[d]? = tmps[d]?) → vstep P orc ih ops o tmpsB s = some (putT tmpsB o.dst v, s') := by
  have hw : ∀ tmpsB : List Value, (∀ d ∈ readsT ops o, tmpsB[d]? = tmps[d]?) → wantedB ops tmpsB o = wantedB ops tmps o := by
    intro tmpsB hB
    unfold wantedB
    cases hg : o.guard with
    | none => rfl
    | some p =>
      obtain ⟨j, want⟩ := p
      simp only
      cases hd : (ops[j]?).bind (·.dst) with
      | none => rfl
      | some d =>
        simp only
        rw [hB d (List.mem_append_right _ (by simp [hg, hd]))]
  have hv : ∀ tmpsB : List Value, (∀ d ∈ readsT ops o, tmpsB[d]? = tmps[d]?) → ∀ x ∈ o.op.operands, veval tmpsB x = veval tmps x :=
    fun tmpsB hB x hx => veval_same fun d hd => hB d (mem_readsT (hd ▸ hx))
  unfold vstep at h
  cases hb : wantedB ops tmps o with
  | none => rw [hb] at h; exact (fail_some h).elim
  | some b =>
    rw [hb] at h
    cases b with
    | false =>
      obtain ⟨rfl, rfl⟩ := ret_some h
      refine ⟨undef, rfl, fun tmpsB hB => ?_⟩
      unfold vstep
      rw [hw tmpsB hB, hb]
      rfl
    | true =>
      dsimp only at h
      split at h
      · rename_i hall
        obtain ⟨nx, s1, h1, h2⟩ := bind_some h
        have key : ∀ tmpsB : List Value, (∀ d ∈ readsT ops o, tmpsB[d]? = tmps[d]?) → ∀ (K : Next → VM (List Value)) r, K nx s1 = some r → (∀ n, n = nx → K n = (match n with
            | .value v => VM.ret (putT tmpsB o.dst v)
            | .skip => VM.ret (putT tmpsB o.dst undef)
            | .enter f args => VM.bind (ih (.call f args)) fun
              | .val v => VM.ret (putT tmpsB o.dst v)
              | _ => VM.fail 0
            | _ => VM.fail 0)) → vstep P orc ih ops o tmpsB s = some r := by
          intro tmpsB hB K r hr hK
          unfold vstep
          rw [hw tmpsB hB, hb]
          dsimp only
          have hall' : o.op.operands.toList.all (okOperand tmpsB) = true := by
            rw [List.all_eq_true] at hall ⊢
            intro x hx
            have := hall x hx
            unfold okOperand at this ⊢
            rw [hv tmpsB hB x (by simpa using hx)]
            exact this
          rw [if_pos hall']
          have hop : vop P orc (fun x => (veval tmpsB x).getD undef) o = vop P orc (fun x => (veval tmps x).getD undef) o := vop_congr o fun x hx => by rw [hv tmpsB hB x hx]
          simp only [VM.bind, hop, h1]
          rw [hK nx rfl] at hr
          exact hr
        cases nx with
        | value v =>
          obtain ⟨rfl, rfl⟩ := ret_some h2
          exact ⟨v, rfl, fun tmpsB hB => key tmpsB hB (fun _ => VM.ret (putT tmpsB o.dst v)) _ rfl (by rintro n rfl; rfl)⟩
        | skip =>
          obtain ⟨rfl, rfl⟩ := ret_some h2
          exact ⟨undef, rfl, fun tmpsB hB => key tmpsB hB (fun _ => VM.ret (putT tmpsB o.dst undef)) _ rfl (by rintro n rfl; rfl)⟩
        | enter f args =>
          obtain ⟨out, s2, h3, h4⟩ := bind_some h2
          cases out with
          | fin _ _ => exact (fail_some h4).elim
          | val v =>
            obtain ⟨rfl, rfl⟩ := ret_some h4
            refine ⟨v, rfl, fun tmpsB hB => key tmpsB hB (fun _ => VM.bind (ih (.call f args)) fun
              | .val v => VM.ret (putT tmpsB o.dst v)
              | _ => VM.fail 0) _ ?_ (by rintro n rfl; rfl)⟩
            simp only [VM.bind, h3]
            rfl
        | _ => exact (fail_some h2).elim
      · exact (fail_some h).elim

/-- The states of a run in the order of the text. -/
theorem vopsD_run {orc : Orc} {ih : Task → VM Out} {ops : Array Oper} : ∀ (l : List Oper) (tmps tmps' : List Value) (Ls : List (List Nat)) (s s' : VS), vopsD P orc ih ops l tmps s = some ((tmps', Ls), s') →
    ∃ (tm : Nat → List Value) (st : Nat → VS), tm 0 = tmps ∧ st 0 = s ∧ tm l.length = tmps' ∧ st l.length = s' ∧ Ls.length = l.length ∧
      ∀ i o L, l[i]? = some o → Ls[i]? = some L → ∃ r, vstep P orc ih ops o (tm i) { st i with trk := true, log := [] } = some (tm (i + 1), r) ∧ r.log = L ∧ r.g = (st (i + 1)).g
  | [], tmps, tmps', Ls, s, s', h => by
    obtain ⟨h1, rfl⟩ := ret_some h
    simp only [Prod.mk.injEq] at h1
    obtain ⟨rfl, rfl⟩ := h1
    exact ⟨fun _ => tmps, fun _ => s, rfl, rfl, rfl, rfl, rfl, fun i o L hl _ => by simp at hl⟩
  | o :: l, tmps, tmps', Ls, s, s', h => by
    obtain ⟨⟨t1, L1⟩, s1, h1, h2⟩ := bind_some h
    obtain ⟨⟨t2, Ls2⟩, s2, h3, h4⟩ := bind_some h2
    obtain ⟨h5, rfl⟩ := ret_some h4
    simp only [Prod.mk.injEq] at h5
    obtain ⟨rfl, rfl⟩ := h5
    obtain ⟨r, q1, q2, q3⟩ := within_some h1
    simp only at q1 q2
    obtain ⟨tm, st, p1, p2, p3, p4, p5, p6⟩ := vopsD_run l t1 t2 Ls2 s1 _ h3
    refine ⟨fun i => match i with | 0 => tmps | i + 1 => tm i, fun i => match i with | 0 => s | i + 1 => st i, rfl, rfl, p3, p4, by simp [p5], fun i o' L hl hL => ?_⟩
    cases i with
    | zero =>
      simp only [List.getElem?_cons_zero, Option.some.injEq] at hl hL
      subst hl hL
      refine ⟨r, ?_, q2.symm, ?_⟩
      · simp only [p1]
        exact q1
      · simp only [p2, q3]
        rfl
    | succ i =>
      rw [List.getElem?_cons_succ] at hl hL
      exact p6 i o' L hl hL

end
end Vx
end

section
/- A virtual executor of the model's programs: a region that draws its order. Conditions: as for an operation. -/
set_option linter.unusedVariables false
set_option linter.unusedSimpArgs false
namespace Vx
open Go Go.RowKit

/-! ### What stands ahead of an operation -/
def maskOf (acc : List Nat) (o : Oper) : Nat := o.after.toList.foldl (fun s e => if Region.binds .any e then s ||| 2 ^ e.on ||| acc.getD e.on 0 else s) 0

def MaskOk (l : List Oper) (ms : List Nat) : Prop :=
  ms.length = l.length ∧ ∀ (j : Nat) (o : Oper) (i : Nat), l[j]? = some o → (ms.getD j 0).testBit i = true → ∃ e ∈ o.after.toList, Region.binds .any e = true ∧ (i = e.on ∨ (e.on < j ∧ (ms.getD e.on 0).testBit i = true))

theorem maskOf_bit (acc : List Nat) (i : Nat) : ∀ (l : List Edge) (s : Nat), (l.foldl (fun s e => if Region.binds .any e then s ||| 2 ^ e.on ||| acc.getD e.on 0 else s) s).testBit i = true →
    s.testBit i = true ∨ ∃ e ∈ l, Region.binds .any e = true ∧ (i = e.on ∨ (acc.getD e.on 0).testBit i = true)
  | [], s, h => .inl h
  | e :: l, s, h => by
    rw [List.foldl_cons] at h
    rcases maskOf_bit acc i l _ h with h1 | ⟨e', h1, h2⟩
    · split at h1
      · rename_i hb
        simp only [Nat.testBit_or, Bool.or_eq_true, Nat.testBit_two_pow, decide_eq_true_eq] at h1
        rcases h1 with (h1 | h1) | h1
        · exact .inl h1
        · exact .inr ⟨e, by simp, hb, .inl h1.symm⟩
        · exact .inr ⟨e, by simp, hb, .inr h1⟩
      · exact .inl h1
    · exact .inr ⟨e', by simp [h1], h2⟩

theorem MaskOk.step {l : List Oper} {ms : List Nat} (h : MaskOk l ms) (o : Oper) : MaskOk (l ++ [o]) (ms ++ [maskOf ms o]) := by
  refine ⟨by simp [h.1], fun j o' i ho hb => ?_⟩
  have hget : ∀ k, k < ms.length → (ms ++ [maskOf ms o]).getD k 0 = ms.getD k 0 := by
    intro k hk
    simp only [List.getD_eq_getElem?_getD]
    rw [List.getElem?_append_left hk]
  by_cases hj : j < l.length
  · rw [List.getElem?_append_left hj] at ho
    rw [hget j (by rw [h.1]; exact hj)] at hb
    obtain ⟨e, h1, h2, h3⟩ := h.2 j o' i ho hb
    refine ⟨e, h1, h2, ?_⟩
    rcases h3 with h3 | ⟨h3, h4⟩
    · exact .inl h3
    · exact .inr ⟨h3, by rw [hget _ (by rw [h.1]; omega)]; exact h4⟩
  · rw [List.getElem?_append_right (by omega)] at ho
    have hj0 : j - l.length = 0 := by
      cases hjl : j - l.length with
      | zero => rfl
      | succ n => rw [hjl] at ho; simp at ho
    rw [hj0] at ho
    simp only [List.getElem?_cons_zero, Option.some.injEq] at ho
    subst ho
    have hjl : j = ms.length := by rw [h.1]; omega
    subst hjl
    have hb' : (maskOf ms o).testBit i = true := by
      simp only [List.getD_eq_getElem?_getD] at hb
      rw [List.getElem?_append_right (Nat.le_refl _)] at hb
      simpa using hb
    rcases maskOf_bit ms i _ _ hb' with h1 | ⟨e, h1, h2, h3⟩
    · simp at h1
    · refine ⟨e, h1, h2, ?_⟩
      rcases h3 with h3 | h3
      · exact .inl h3
      · have hlt : e.on < ms.length := by
          rcases Nat.lt_or_ge e.on ms.length with h4 | h4
          · exact h4
          · rw [List.getD_eq_getElem?_getD, List.getElem?_eq_none h4] at h3
            simp at h3
        exact .inr ⟨hlt, by rw [hget _ hlt]; exact h3⟩

theorem MaskOk.fold : ∀ (l2 l1 : List Oper) (acc : List Nat), MaskOk l1 acc → MaskOk (l1 ++ l2) (l2.foldl (fun acc o => acc ++ [maskOf acc o]) acc)
  | [], l1, acc, h => by simpa using h
  | o :: l2, l1, acc, h => by
    have := MaskOk.fold l2 (l1 ++ [o]) _ (h.step o)
    simpa using this

theorem masks_ok (l : List Oper) : MaskOk l (masks l) := by
  have := MaskOk.fold l [] [] ⟨rfl, fun j o i h _ => by simp at h⟩
  rw [List.nil_append] at this
  exact this

/-- Operations listed, with all that an edge puts ahead of them. -/
def ShutAt (ops : Array Oper) (S : Nat → Prop) (j : Nat) : Prop := ∀ o, ops[j]? = some o → ∀ e ∈ o.after.toList, Region.binds .any e = true → S e.on

theorem mask_in {ops : Array Oper} {S : Nat → Prop} (hc : ∀ j, S j → ShutAt ops S j) (i : Nat) : ∀ j, ((masks ops.toList).getD j 0).testBit i = true → ShutAt ops S j → S i := by
  intro j
  induction j using Nat.strongRecOn with
  | ind j ih =>
    intro hb hs
    obtain ⟨hlen, hm⟩ := masks_ok ops.toList
    have hj : j < ops.toList.length := by
      rcases Nat.lt_or_ge j ops.toList.length with h | h
      · exact h
      · rw [List.getD_eq_getElem?_getD, List.getElem?_eq_none (by rw [hlen]; exact h)] at hb
        simp at hb
    obtain ⟨e, h1, h2, h3⟩ := hm j _ i (List.getElem?_eq_getElem hj) hb
    have he : S e.on := hs _ (by rw [← Array.getElem?_toList, List.getElem?_eq_getElem hj]) e h1 h2
    rcases h3 with rfl | ⟨h3, h4⟩
    · exact he
    · exact ih e.on h3 h4 (hc _ he)

/-! ### What 'checkD' checks -/
theorem checkD_edge {ops : Array Oper} {Ls : List (List Nat)} (h : checkD ops ops.toList Ls = true) {i : Nat} {o : Oper} (ho : ops[i]? = some o) : ∀ e ∈ o.after.toList, Region.binds .any e = true → e.on < i := by
  unfold checkD at h
  simp only [Bool.and_eq_true] at h
  have h1 := List.all_eq_true.1 h.1 (o, i) (by
    rw [List.mem_zipIdx_iff_getElem?]
    simpa using ho)
  intro e he hb
  have := List.all_eq_true.1 h1 e he
  simp only [hb, Bool.not_true, Bool.false_or, decide_eq_true_eq] at this
  exact this

theorem checkD_apart {ops : Array Oper} {Ls : List (List Nat)} (h : checkD ops ops.toList Ls = true) {i j : Nat} {o p : Oper} {L M : List Nat} (ho : ops[i]? = some o) (hL : Ls[i]? = some L)
    (hp : ops[j]? = some p) (hM : Ls[j]? = some M) (hij : i < j) : ((masks ops.toList).getD j 0).testBit i = true ∨ apart ops o L p M = true := by
  unfold checkD at h
  simp only [Bool.and_eq_true] at h
  have mem : ∀ {i o L}, ops[i]? = some o → Ls[i]? = some L → ((o, L), i) ∈ (ops.toList.zip Ls).zipIdx := by
    intro i o L ho hL
    rw [List.mem_zipIdx_iff_getElem?]
    simp only [List.getElem?_zip_eq_some]
    exact ⟨by simpa using ho, hL⟩
  have h1 := List.all_eq_true.1 h.2 _ (mem hp hM)
  have h2 := List.all_eq_true.1 h1 _ (mem ho hL)
  simp only [Bool.or_eq_true, decide_eq_true_eq] at h2
  rcases h2 with (h2 | h2) | h2
  · omega
  · exact .inl h2
  · exact .inr h2

theorem apartH_spec {L M : List Nat} (h : apartH L M = true) {k : Nat} (hk : 2 * k + 1 ∈ L) : ¬ hit M k := by
  have := List.all_eq_true.1 h _ hk
  have hodd : (2 * k + 1) % 2 = 1 := by omega
  rw [if_pos hodd] at this
  simp only [Bool.not_eq_true', Bool.or_eq_false_iff] at this
  rintro (h1 | h1)
  · have h2 := this.2
    simp only [Nat.add_sub_cancel] at h2
    rw [List.contains_iff_mem.2 h1] at h2
    cases h2
  · have h2 := this.1
    rw [List.contains_iff_mem.2 h1] at h2
    cases h2

theorem apartT_spec {ops : Array Oper} {o p : Oper} (h : apartT ops o p = true) {d : Tmp} (hd : o.dst = some d) : d ∉ readsT ops p ∧ p.dst ≠ some d := by
  unfold apartT at h
  rw [hd] at h
  simp only [Bool.and_eq_true, Bool.not_eq_true', bne_iff_ne, ne_eq] at h
  exact ⟨fun hm => by rw [List.contains_iff_mem.2 hm] at h; exact absurd h.1 (by simp), h.2⟩

end Vx
end

section
/- A virtual executor of the model's programs: a region that draws its order comes to what the order of the text comes to. Conditions: as for an operation. -/
set_option linter.unusedVariables false
set_option linter.unusedSimpArgs false
namespace Vx
open Go Go.RowKit

section
variable {P : Program} {T : Nat → Option Value} {w0 : World}

/-- What is known of a run in the order of the text. -/
structure TextRun (P : Program) (orc : Orc) (ih : Task → VM Out) (ops : Array Oper) (Ls : List (List Nat)) (tm : Nat → List Value) (st : Nat → VS) : Prop where
  len : Ls.length = ops.size
  step : ∀ i o L, ops[i]? = some o → Ls[i]? = some L → ∃ r, vstep P orc ih ops o (tm i) { st i with trk := true, log := [] } = some (tm (i + 1), r) ∧ r.log = L ∧ r.g = (st (i + 1)).g

section
variable {orc : Orc} {ih : Task → VM Out} {ops : Array Oper} {Ls : List (List Nat)} {tm : Nat → List Value} {st : Nat → VS}

/-- A place of the heap that nothing writes from i to j. -/
theorem TextRun.still (hr : TextRun P orc ih ops Ls tm st) (hf : ∀ t, Fr (ih t)) {k i : Nat} : ∀ j, i ≤ j → j ≤ ops.size → (∀ p L, i ≤ p → p < j → Ls[p]? = some L → 2 * k + 1 ∉ L) → (st j).g k = (st i).g k := by
  intro j
  induction j with
  | zero => intro h _ _; have : i = 0 := by omega
            subst this; rfl
  | succ j ihj =>
    intro h hn hw
    rcases Nat.lt_or_ge i (j + 1) with hlt | hge
    · have hj : j < ops.size := by omega
      have hjL : j < Ls.length := by rw [hr.len]; exact hj
      obtain ⟨r, h1, h2, h3⟩ := hr.step j _ _ (Array.getElem?_eq_getElem hj) (List.getElem?_eq_getElem hjL)
      obtain ⟨L, q1, _, q3, _⟩ := (Fr.vstep hf ops _ _).run _ _ _ h1 rfl
      simp only [List.append_nil] at q1
      have hno := hw j _ (by omega) (by omega) (List.getElem?_eq_getElem hjL)
      rw [← h3, q3 k (by rw [← q1, h2]; exact hno)]
      exact ihj (by omega) (by omega) fun p L hp hp' => hw p L hp (by omega)
    · have : i = j + 1 := by omega
      subst this; rfl

theorem TextRun.stillT (hr : TextRun P orc ih ops Ls tm st) {d : Tmp} {i : Nat} : ∀ j, i ≤ j → j ≤ ops.size → (∀ p o, i ≤ p → p < j → ops[p]? = some o → o.dst ≠ some d) → (tm j)[d]? = (tm i)[d]? := by
  intro j
  induction j with
  | zero => intro h _ _; have : i = 0 := by omega
            subst this; rfl
  | succ j ihj =>
    intro h hn hw
    rcases Nat.lt_or_ge i (j + 1) with hlt | hge
    · have hj : j < ops.size := by omega
      have hjL : j < Ls.length := by rw [hr.len]; exact hj
      obtain ⟨r, h1, h2, h3⟩ := hr.step j _ _ (Array.getElem?_eq_getElem hj) (List.getElem?_eq_getElem hjL)
      obtain ⟨v, q1, _⟩ := vstep_temps h1
      have hno := hw j _ (by omega) (by omega) (Array.getElem?_eq_getElem hj)
      rw [q1, putT_get, if_neg hno]
      exact ihj (by omega) (by omega) fun p o hp hp' => hw p o hp (by omega)
    · have : i = j + 1 := by omega
      subst this; rfl

/-- The state after the operations of a set, in some order. -/
structure Part (ops : Array Oper) (Ls : List (List Nat)) (tm : Nat → List Value) (st : Nat → VS) (S : Nat → Prop) (tB : List Value) (g : Hp) : Prop where
  temps : ∀ (d : Tmp) i, i ≤ ops.size → (∀ j o, ops[j]? = some o → o.dst = some d → (S j ↔ j < i)) → tB[d]? = (tm i)[d]?
  heap : ∀ k i, i ≤ ops.size → (∀ j L, Ls[j]? = some L → 2 * k + 1 ∈ L → (S j ↔ j < i)) → g k = (st i).g k

theorem lookup_lt {L : List Nat} {i : Nat} (h : Ls[i]? = some L) : i < Ls.length := by
  rcases Nat.lt_or_ge i Ls.length with h1 | h1
  · exact h1
  · rw [List.getElem?_eq_none h1] at h; cases h

/-- One more operation. -/
theorem Part.step (hr : TextRun P orc ih ops Ls tm st) (hf : ∀ t, Fr (ih t)) (hc : checkD ops ops.toList Ls = true) {S : Nat → Prop} {tB : List Value} {g : Hp} (hp : Part ops Ls tm st S tB g)
    (hS : ∀ j, S j → ShutAt ops S j) {p : Nat} (hpS : ¬ S p) {o : Oper} (ho : ops[p]? = some o) (hready : ShutAt ops S p) (t0 : VS) (ht0 : t0.g = g) (ht1 : t0.cnt = (st p).cnt) (ht2 : t0.trk = true) :
    ∃ tB' t', vstep P orc ih ops o tB t0 = some (tB', t') ∧ Part ops Ls tm st (fun j => S j ∨ j = p) tB' t'.g := by
  have hpn : p < ops.size := by
    rcases Nat.lt_or_ge p ops.size with h1 | h1
    · exact h1
    · rw [Array.getElem?_eq_none h1] at ho; cases ho
  have hpL : p < Ls.length := by rw [hr.len]; exact hpn
  have hLp := List.getElem?_eq_getElem hpL
  generalize hLL : Ls[p] = L at hLp
  obtain ⟨r, h1, h2, h3⟩ := hr.step p o L ho hLp
  -- operations that are not apart from p stand in S just if they stand ahead of p
  have order : ∀ j q M, j ≠ p → ops[j]? = some q → Ls[j]? = some M → ¬ (apartH L M = true ∧ apartH M L = true ∧ apartT ops o q = true ∧ apartT ops q o = true) → (S j ↔ j < p) := by
    intro j q M hj hq hM hna
    have hap : ∀ {i k o' p' L' M'}, ops[i]? = some o' → Ls[i]? = some L' → ops[k]? = some p' → Ls[k]? = some M' → i < k → ¬ apart ops o' L' p' M' = true → ((masks ops.toList).getD k 0).testBit i = true :=
      fun a b c d e f => (checkD_apart hc a b c d e).resolve_right f
    constructor
    · intro hSj
      rcases Nat.lt_or_ge j p with hlt | hge
      · exact hlt
      · exfalso
        have hb := hap ho hLp hq hM (by omega) (by
          intro ha
          unfold apart at ha
          simp only [Bool.and_eq_true] at ha
          exact hna ⟨ha.1.1.1, ha.1.1.2, ha.1.2, ha.2⟩)
        exact hpS (mask_in hS p j hb (hS j hSj))
    · intro hlt
      have hb := hap hq hM ho hLp hlt (by
        intro ha
        unfold apart at ha
        simp only [Bool.and_eq_true] at ha
        exact hna ⟨ha.1.1.2, ha.1.1.1, ha.2, ha.1.2⟩)
      exact mask_in hS j p hb hready
  have orderH : ∀ k, hit L k → ∀ j M, Ls[j]? = some M → 2 * k + 1 ∈ M → (S j ↔ j < p) := by
    intro k hk j M hM hkM
    by_cases hj : j = p
    · subst hj
      exact ⟨fun h => absurd h hpS, fun h => absurd h (Nat.lt_irrefl _)⟩
    · have hjn : j < ops.size := by rw [← hr.len]; exact lookup_lt hM
      exact order j _ M hj (Array.getElem?_eq_getElem hjn) hM fun ha => apartH_spec ha.2.1 hkM hk
  have orderT : ∀ d, (d ∈ readsT ops o ∨ o.dst = some d) → ∀ j q, ops[j]? = some q → q.dst = some d → (S j ↔ j < p) := by
    intro d hd j q hq hqd
    by_cases hj : j = p
    · subst hj
      exact ⟨fun h => absurd h hpS, fun h => absurd h (Nat.lt_irrefl _)⟩
    · have hjn : j < ops.size := by
        rcases Nat.lt_or_ge j ops.size with h1 | h1
        · exact h1
        · rw [Array.getElem?_eq_none h1] at hq; cases hq
      refine order j q _ hj hq (List.getElem?_eq_getElem (by rw [hr.len]; exact hjn)) fun ha => ?_
      have := apartT_spec ha.2.2.2 hqd
      rcases hd with hd | hd
      · exact this.1 hd
      · exact this.2 hd
  -- the heap
  obtain ⟨L', q1, q2, q3, q4⟩ := (Fr.vstep hf ops o (tm p)).run _ _ _ h1 rfl
  simp only [List.append_nil] at q1
  rw [h2] at q1
  subst q1
  obtain ⟨t', a1, a2, a3, a4, a5, a6⟩ := q4 t0 ht1 ht2 fun k hk => by
    rw [ht0]
    exact hp.heap k p (by omega) (orderH k hk)
  -- the temporaries
  obtain ⟨v, b1, b2⟩ := vstep_temps a1
  have b3 := b2 tB fun d hd => hp.temps d p (by omega) (orderT d (.inl hd))
  refine ⟨_, t', b3, ?_, ?_⟩
  · intro d i hi hSi
    rw [putT_get]
    by_cases hd : o.dst = some d
    · rw [if_pos hd]
      have e1 := hp.temps d p (by omega) (orderT d (.inr hd))
      have hpi : p < i := (hSi p o ho hd).1 (.inr rfl)
      have e2 : (tm i)[d]? = (tm (p + 1))[d]? := hr.stillT i (by omega) hi fun j q hj hji hq hqd => by
        have f1 := (hSi j q hq hqd).2 hji
        have f2 := orderT d (.inr hd) j q hq hqd
        rcases f1 with f1 | f1
        · have := f2.1 f1; omega
        · omega
      rw [e2, b1, putT_get, if_pos hd, e1]
    · rw [if_neg hd]
      refine hp.temps d i hi fun j q hq hqd => ?_
      rw [← hSi j q hq hqd]
      constructor
      · exact .inl
      · rintro (h | rfl)
        · exact h
        · rw [ho] at hq; cases hq; exact absurd hqd hd
  · intro k i hi hSi
    by_cases hk : 2 * k + 1 ∈ L
    · have hpi : p < i := (hSi p L hLp hk).1 (.inr rfl)
      have e2 : (st i).g k = (st (p + 1)).g k := hr.still hf i (by omega) hi fun j M hj hji hM hkM => by
        have f1 := (hSi j M hM hkM).2 hji
        have f2 := orderH k (.inr hk) j M hM hkM
        rcases f1 with f1 | f1
        · have := f2.1 f1; omega
        · omega
      rw [a5 k hk, h3, e2]
    · rw [a6 k hk, ht0]
      refine hp.heap k i hi fun j M hM hkM => ?_
      rw [← hSi j M hM hkM]
      constructor
      · exact .inl
      · rintro (h | rfl)
        · exact h
        · rw [hLp] at hM; cases hM; exact absurd hkM hk
end

/-- What a region comes to. -/
def RegionPost (T : Nat → Option Value) (w0 : World) (m : Ren) (tmps' : List Value) (g : Hp) (ds : List Deferred) : Exit → Act → World → Prop := fun e a' w' =>
  e = .normal ∧ ∃ m', m.le m' ∧ LRel T m' tmps' a'.tmps.toList ∧ a'.defers = ds ∧ HR T w0 m' g w'

theorem any_wp {orc : Orc} (hz : ZeroOk P) (ho : OrcOk P T orc) {ih : Task → VM Out} (hi : CallsOk P T w0 ih) (hf : ∀ t, Fr (ih t)) {ops : Array Oper} {Ls : List (List Nat)} {tm : Nat → List Value} {st : Nat → VS}
    (hr : TextRun P orc ih ops Ls tm st) (hc : checkD ops ops.toList Ls = true) (m0 : Ren) (ds : List Deferred) : ∀ (fuel : Nat) (listed : Array Bool) (tB : List Value) (h : Tr) (m : Ren) (a : Act) (w : World), listed.size = ops.size →
    listed.toList.count false = fuel → (∀ j, listed[j]? = some true → ShutAt ops (fun j => listed[j]? = some true) j) → Part ops Ls tm st (fun j => listed[j]? = some true) tB h.get → m0.le m → LRel T m tB a.tmps.toList → a.defers = ds → HR T w0 m h.get w →
    wpAny P .any ops (RegionPost T w0 m0 (tm ops.size) (st ops.size).g ds) fuel listed a w := by
  intro fuel
  have done : ∀ (listed : Array Bool) (tB : List Value) (h : Tr) (m : Ren) (a : Act) (w : World), listed.size = ops.size → (∀ j, j < ops.size → listed[j]? = some true) → Part ops Ls tm st (fun j => listed[j]? = some true) tB h.get → m0.le m →
      LRel T m tB a.tmps.toList → a.defers = ds → HR T w0 m h.get w → RegionPost T w0 m0 (tm ops.size) (st ops.size).g ds .normal a w := by
    intro listed tB hp0 m a w hsz hall hp hm ht hd hw
    have hlt : ∀ {j : Nat} {o : Oper}, ops[j]? = some o → j < ops.size := by
      intro j o h
      rcases Nat.lt_or_ge j ops.size with h1 | h1
      · exact h1
      · rw [Array.getElem?_eq_none h1] at h; cases h
    have e1 : tB = tm ops.size := List.ext_getElem? fun d => hp.temps d ops.size (Nat.le_refl _) fun j o hj _ => ⟨fun _ => hlt hj, fun h => hall j h⟩
    have e2 : hp0.get = (st ops.size).g := funext fun k => hp.heap k ops.size (Nat.le_refl _) fun j L hj _ => ⟨fun _ => by rw [← hr.len]; exact lookup_lt hj, fun h => hall j h⟩
    exact ⟨rfl, m, hm, e1 ▸ ht, hd, e2 ▸ hw⟩
  -- what is ready
  have ready_iff : ∀ (listed : Array Bool) (i : Nat), listed.size = ops.size → (i ∈ Region.ready .any ops listed ↔ i < ops.size ∧ listed[i]? = some false ∧ ShutAt ops (fun j => listed[j]? = some true) i) := by
    intro listed i hsz
    unfold Region.ready
    rw [List.mem_filter, List.mem_range]
    constructor
    · rintro ⟨h1, h2⟩
      have hil : i < listed.size := by omega
      simp only [Bool.and_eq_true, Array.getD_eq_getD_getElem?, Array.getElem?_eq_getElem hil, Option.getD_some, Bool.not_eq_true', Array.getElem?_eq_getElem h1, Option.map_some] at h2
      refine ⟨h1, by rw [Array.getElem?_eq_getElem hil, h2.1], fun o ho e he hb => ?_⟩
      rw [Array.getElem?_eq_getElem h1] at ho
      cases ho
      have := (Array.all_eq_true'.1 h2.2) e (by simpa using he)
      simp only [hb, Bool.not_true, Bool.false_or] at this
      cases hl : listed[e.on]? with
      | none => simp [hl] at this
      | some b => simp [hl] at this; subst this; rfl
    · rintro ⟨h1, h2, h3⟩
      refine ⟨h1, ?_⟩
      simp only [Array.getD_eq_getD_getElem?, h2, Option.getD_some, Bool.not_false, Bool.true_and, Array.getElem?_eq_getElem h1, Option.map_some]
      rw [Array.all_eq_true']
      intro e he
      cases hb : Region.binds .any e with
      | false => rfl
      | true =>
        have := h3 _ (Array.getElem?_eq_getElem h1) e (by simpa using he) hb
        simp [this]
  -- nothing is ready: all is listed
  have full : ∀ (listed : Array Bool), listed.size = ops.size → Region.ready .any ops listed = [] → ∀ j, j < ops.size → listed[j]? = some true := by
    intro listed hsz hnil j
    induction j using Nat.strongRecOn with
    | ind j ihj =>
      intro hj
      have hjl : j < listed.size := by omega
      cases hb : listed[j] with
      | true => rw [Array.getElem?_eq_getElem hjl, hb]
      | false =>
        exfalso
        have : j ∈ Region.ready .any ops listed := (ready_iff listed j hsz).2 ⟨hj, by rw [Array.getElem?_eq_getElem hjl, hb], fun o ho e he hbd => by
          have hlt := checkD_edge hc ho e he hbd
          exact ihj e.on hlt (by omega)⟩
        rw [hnil] at this
        cases this
  induction fuel with
  | zero =>
    intro listed tB hp0 m a w hsz hcount hS hp hm ht hd hw
    have hall : ∀ j, j < ops.size → listed[j]? = some true := by
      intro j hj
      have hjl : j < listed.size := by omega
      rw [List.count_eq_zero] at hcount
      rw [Array.getElem?_eq_getElem hjl]
      cases hb : listed[j] with
      | true => rfl
      | false => exact absurd (by rw [← hb]; simp) hcount
    refine ⟨?_, done listed tB hp0 m a w hsz hall hp hm ht hd hw⟩
    cases hrd : Region.ready .any ops listed with
    | nil => rfl
    | cons i l =>
      have := (ready_iff listed i hsz).1 (by rw [hrd]; simp)
      rw [hall i this.1] at this
      cases this.2.1
  | succ fuel ihf =>
    intro listed tB hp0 m a w hsz hcount hS hp hm ht hd hw
    refine ⟨fun hnil => done listed tB hp0 m a w hsz (full listed hsz hnil) hp hm ht hd hw, fun i hi0 => ?_⟩
    obtain ⟨h1, h2, h3⟩ := (ready_iff listed i hsz).1 hi0
    have hil : i < listed.size := by omega
    obtain ⟨tB', t', s1, s2⟩ := Part.step hr hf hc hp hS (p := i) (by rw [h2]; intro h; cases h) (Array.getElem?_eq_getElem h1) h3 { (st i) with heap := hp0, trk := true } rfl rfl rfl
    have hS' : (fun j => (listed.setIfInBounds i true)[j]? = some true) = fun j => listed[j]? = some true ∨ j = i := by
      funext j
      apply propext
      rw [Array.getElem?_setIfInBounds]
      by_cases hj : i = j
      · subst hj; simp [hil]
      · rw [if_neg hj]
        constructor
        · exact .inl
        · rintro (h | h)
          · exact h
          · exact absurd h.symm hj
    refine step_wp hz ho hi (Array.getElem?_eq_getElem h1) s1 ht hw fun m' a' w' hle ht' hd' hw' => ?_
    refine ihf _ tB' t'.heap m' a' w' (by simp [hsz]) ?_ ?_ ?_ (Ren.le_trans hm hle) ht' (hd'.trans hd) hw'
    · rw [Array.toList_setIfInBounds, List.count_set (by simpa using hil), hcount]
      have : listed.toList[i]'(by simpa using hil) = false := by
        rw [Array.getElem?_eq_getElem hil] at h2
        simpa using h2
      rw [this]
      simp
    · intro j hj
      have hj' : (fun j => (listed.setIfInBounds i true)[j]? = some true) j := hj
      rw [hS'] at hj'
      rw [hS']
      intro o ho e he hb
      rcases hj' with hj' | rfl
      · exact .inl (hS j hj' o ho e he hb)
      · exact .inl (h3 o ho e he hb)
    · rw [hS']
      exact s2

/-- A region that draws its order. -/
theorem draw_wp {orc : Orc} (hz : ZeroOk P) (ho : OrcOk P T orc) {ih : Task → VM Out} (hi : CallsOk P T w0 ih) (hf : ∀ t, Fr (ih t)) {ops : Array Oper} {tmps tmps' : List Value} {s s' : VS}
    (hs : vregion P orc ih ops true tmps s = some (tmps', s')) {m : Ren} {a : Act} {w : World} (ht : LRel T m tmps a.tmps.toList) (hw : HR T w0 m s.g w) :
    wpAny P .any ops (RegionPost T w0 m tmps' s'.g a.defers) ops.size (Array.replicate ops.size false) a w := by
  unfold vregion at hs
  rw [if_pos rfl] at hs
  obtain ⟨⟨t1, Ls⟩, s1, h1, h2⟩ := bind_some hs
  simp only at h2
  split at h2
  · rename_i hc
    obtain ⟨rfl, rfl⟩ := ret_some h2
    obtain ⟨tm, st, p1, p2, p3, p4, p5, p6⟩ := vopsD_run _ _ _ _ _ _ h1
    have hlen : ops.toList.length = ops.size := by simp
    rw [hlen] at p3 p4 p5
    have hr : TextRun P orc ih ops Ls tm st := ⟨p5, fun i o L hi hL => p6 i o L (by simpa using hi) hL⟩
    rw [← p3, ← p4]
    subst p1 p2
    refine any_wp hz ho hi hf hr hc m a.defers ops.size (Array.replicate ops.size false) (tm 0) (st 0).heap m a w (by simp) (by simp) ?_ ⟨?_, ?_⟩ (Ren.le_refl m) ht rfl hw
    · intro j hj
      simp [Array.getElem?_replicate] at hj
    · intro d i hi hS
      symm
      refine hr.stillT i (Nat.zero_le _) hi fun p o _ hp hop hd => ?_
      have := (hS p o hop hd).2 hp
      simp [Array.getElem?_replicate] at this
    · intro k i hi hS
      symm
      refine hr.still hf i (Nat.zero_le _) hi fun p L _ hp hL hk => ?_
      have := (hS p L hL hk).2 hp
      simp [Array.getElem?_replicate] at this
  · exact (fail_some h2).elim

end
end Vx
end

section
/- A virtual executor of the model's programs: control, calls. Conditions: as for an operation; regions draw among all orders. -/
set_option linter.unusedVariables false
set_option linter.unusedSimpArgs false
namespace Vx
open Go Go.RowKit

section
variable {P : Program} {T : Nat → Option Value} {w0 : World}

/-! ### What a call returns -/
/-- What leaves the world as it is, if it goes on. -/
def Still {α : Type} (P : Program) (t : Sem α) : Prop := ∀ w v w', t.run P w = .ok v w' → w' = w
theorem Still.pure {α : Type} (a : α) : Still P (Pure.pure a : Sem α) := by
  intro w v w' h
  simp only [Sem.run_pure] at h
  cases h
  rfl
theorem Still.bind {α β : Type} {t : Sem α} {f : α → Sem β} (ht : Still P t) (hf : ∀ a, Still P (f a)) : Still P (t >>= f) := by
  intro w v w' h
  rw [Sem.run_bind] at h
  cases hr : t.run P w with
  | halt x y => rw [hr] at h; cases h
  | ok a w1 =>
    rw [hr] at h
    have := ht _ _ _ hr
    subst this
    exact hf a _ _ _ h
theorem Still.map {α β : Type} {t : Sem α} {f : α → β} (ht : Still P t) : Still P (f <$> t) := Still.bind (f := fun a => Pure.pure (f a)) ht fun a => Still.pure _
theorem Still.halt {α : Type} (h : Halt) : Still P (.halt h : Sem α) := by
  intro w v w' h
  cases h
theorem Still.load (a : Addr) (md : Mode) : Still P (Go.load a md) := by
  intro w v w' h
  unfold Go.load at h
  simp only [Sem.run] at h
  repeat' (split at h)
  all_goals (cases h <;> rfl)
theorem Still.program : Still P Go.program := by
  intro w v w' h
  cases h
  rfl
theorem Still.typeInfo (t : TypeId) : Still P (Go.typeInfo t) := by
  unfold Go.typeInfo
  refine Still.bind Still.program fun p => ?_
  split
  · exact Still.pure _
  · exact Still.halt _
theorem Still.underlying (t : TypeId) : Still P (Go.underlying t) := by
  unfold Go.underlying
  refine Still.bind Still.program fun p => ?_
  split
  · exact Still.pure _
  · exact Still.halt _
theorem Still.isAgg (t : TypeId) : Still P (Go.isAgg t) := by
  unfold Go.isAgg
  refine Still.bind (Still.underlying t) fun d => ?_
  split <;> exact Still.pure _
theorem Still.loadCellsFrom (a : Addr) (n : Nat) : ∀ (i : Nat) (acc : Array Value), Still P (Go.loadCellsFrom a i n acc) := by
  induction n with
  | zero => intro i acc; exact Still.pure _
  | succ n ih =>
    intro i acc
    unfold Go.loadCellsFrom
    exact Still.bind (Still.load _ _) fun v => ih _ _
theorem Still.loadVar (t : TypeId) (a : Addr) : Still P (Go.loadVar t a) := by
  unfold Go.loadVar
  refine Still.bind (Still.isAgg t) fun b => ?_
  split
  · exact Still.bind (Still.bind (Still.typeInfo t) fun i => Still.pure _) fun n => Still.bind (Still.loadCellsFrom _ _ _ _) fun c => Still.pure _
  · exact Still.load _ _
theorem Still.goPanic {α : Type} (v : Value) : Still P (Go.goPanic v : Sem α) := Still.halt _
theorem Still.asAddr (v : Value) : Still P (Go.asAddr v) := by
  unfold Go.asAddr
  split
  · exact Still.pure _
  · unfold runtimePanic
    exact Still.bind Still.program fun p => Still.goPanic _
  · exact Still.halt _

/-- One result. -/
def resF (tmps : Array Value) : ResultVar → Sem Value
  | .tmp t => Pure.pure (tmps.getD t undef)
  | .cell a t => do Go.loadVar t (← Go.asAddr (tmps.getD a undef))
theorem Still.resF (tmps : Array Value) (r : ResultVar) : Still P (Vx.resF tmps r) := by
  cases r with
  | tmp t => exact Still.pure _
  | cell a t => exact Still.bind (Still.asAddr _) fun x => Still.loadVar _ _
theorem Still.mapM {α β : Type} {f : α → Sem β} (hf : ∀ a, Still P (f a)) : ∀ l : List α, Still P (l.mapM f)
  | [] => by simp only [List.mapM_nil]; exact Still.pure _
  | x :: l => by
    simp only [List.mapM_cons]
    exact Still.bind (hf x) fun a => Still.bind (Still.mapM hf l) fun b => Still.pure _
theorem results_eq (fn : Func) (tmps : Array Value) : results fn tmps = (do let vs ← fn.results.mapM (resF tmps); Pure.pure (if h : vs.size = 1 then vs[0] else .tuple vs)) := by
  unfold results
  congr 1
theorem Still.results (fn : Func) (tmps : Array Value) : Still P (Go.results fn tmps) := by
  rw [results_eq, Array.mapM_eq_mapM_toList]
  exact Still.bind (Still.map (Still.mapM (Still.resF tmps) _)) fun vs => Still.pure _

theorem TSim.resL {ts a : Array Value} : ∀ (l : List ResultVar) {m : Ren}, ARel T m ts a → TSim P T w0 (LRel T) m (l.mapM (resF ts)) (l.mapM (resF a))
  | [], m, h => by simp only [List.mapM_nil]; exact TSim.pure (LRel.nil m)
  | r :: l, m, h => by
    simp only [List.mapM_cons]
    have hget : ∀ t : Nat, VRel T m (ts.getD t undef) (a.getD t undef) := by
      intro t
      have := eval_rel (m := m) (a := { tmps := a, defers := [] }) (tmps := ts.toList) h (x := .tmp t) (v := ts.toList.getD t undef) rfl
      simpa [Act.eval, List.getD_eq_getElem?_getD, Array.getD_eq_getD_getElem?] using this
    have one : TSim P T w0 (VRel T) m (resF ts r) (resF a r) := by
      cases r with
      | tmp t => exact TSim.pure (hget t)
      | cell x t => exact TSim.bind (TSim.asAddr (hget x)) fun m1 b b' _ hb => TSim.loadVar hb
    refine TSim.bind one fun m1 v v' hl hv => ?_
    refine TSim.bind (TSim.resL l (ARel.mono hl h)) fun m2 vs vs' hl2 hvs => ?_
    exact TSim.pure (LRel.cons (VRel.mono hl2 hv) hvs)

theorem TSim.results {fn : Func} {ts a : Array Value} {m : Ren} (h : ARel T m ts a) : TSim P T w0 (VRel T) m (Go.results fn ts) (Go.results fn a) := by
  rw [results_eq, results_eq, Array.mapM_eq_mapM_toList, Array.mapM_eq_mapM_toList]
  refine TSim.bind (TSim.map (R := ARel T) (TSim.resL _ h) fun m1 l l' _ hl => hl) fun m2 vs vs' _ hvs => TSim.pure ?_
  have hsz := hvs.size
  by_cases h1 : vs.size = 1
  · rw [dif_pos h1, dif_pos (by rw [← hsz]; exact h1)]
    exact hvs.at_ 0 _ _
  · rw [dif_neg h1, dif_neg (by rw [← hsz]; exact h1)]
    exact .tuple' hvs

/-! ### A region in the order of the text -/
theorem text_wp {orc : Orc} (hz : ZeroOk P) (ho : OrcOk P T orc) {ih : Task → VM Out} (hi : CallsOk P T w0 ih) {ops : Array Oper} (m0 : Ren) (ds : List Deferred) (tmps' : List Value) (s' : VS) :
    ∀ (n i : Nat) (tmps : List Value) (s : VS) (m : Ren) (a : Act) (w : World), ops.size = i + n → vops P orc ih ops (ops.toList.drop i) tmps s = some (tmps', s') → m0.le m → LRel T m tmps a.tmps.toList → a.defers = ds → HR T w0 m s.g w →
      wpOps P ops (RegionPost T w0 m0 tmps' s'.g ds) (List.range' i n) a w := by
  intro n
  induction n with
  | zero =>
    intro i tmps s m a w hsz hv hm ht hd hw
    rw [List.drop_eq_nil_of_le (by simp; omega)] at hv
    obtain ⟨rfl, rfl⟩ := ret_some hv
    exact ⟨rfl, m, hm, ht, hd, hw⟩
  | succ n ihn =>
    intro i tmps s m a w hsz hv hm ht hd hw
    have hi' : i < ops.size := by omega
    have hl : ops.toList.drop i = ops[i] :: ops.toList.drop (i + 1) := by
      rw [List.drop_eq_getElem_cons (by simpa using hi')]
      simp
    rw [hl] at hv
    obtain ⟨t1, s1, h1, h2⟩ := bind_some hv
    rw [List.range'_succ, wpOps_cons]
    exact step_wp hz ho hi (Array.getElem?_eq_getElem hi') h1 ht hw fun m' a' w' hle ht' hd' hw' => ihn (i + 1) t1 s1 m' a' w' (by omega) h2 (Ren.le_trans hm hle) ht' (hd'.trans hd) hw'

/-- A region. -/
theorem region_wp {orc : Orc} (hz : ZeroOk P) (ho : OrcOk P T orc) (hmix : P.follows .mixedOrders = true) {ih : Task → VM Out} (hi : CallsOk P T w0 ih) (hf : ∀ t, Fr (ih t)) {id : Nat} {ops : Array Oper} {draw : Bool}
    {tmps tmps' : List Value} {s s' : VS} (hs : vregion P orc ih ops draw tmps s = some (tmps', s')) {m : Ren} {a : Act} {w : World} (ht : LRel T m tmps a.tmps.toList) (hw : HR T w0 m s.g w) :
    (Code.region id ops draw).wp P (RegionPost T w0 m tmps' s'.g a.defers) a w := by
  cases draw with
  | true => exact wp_region_any hmix (draw_wp hz ho hi hf hs ht (hw.still rfl rfl rfl rfl))
  | false =>
    refine wp_region ?_
    have hs' : vops P orc ih ops ops.toList tmps s = some (tmps', s') := by
      unfold vregion at hs
      simpa using hs
    rw [List.range_eq_range']
    exact text_wp hz ho hi m a.defers tmps' s' ops.size 0 tmps s m a w (by omega) (by simpa using hs') (Ren.le_refl m) ht rfl hw

/-! ### Runs -/
def RunsOk (P : Program) (T : Nat → Option Value) (w0 : World) (ih : Task → VM Out) : Prop :=
  ∀ (tmps : List Value) (todo : List Item) (s : VS) (tmps' : List Value) (j : Option Code) (s' : VS), ih (.run tmps todo) s = some (.fin tmps' j, s') → ∀ (m : Ren) (a : Act) (w : World), LRel T m tmps a.tmps.toList → a.defers = [] → HR T w0 m s.g w →
    ∀ (b : Frame) (cs : List Frame), ∃ m' a' w' todo', m.le m' ∧ LRel T m' tmps' a'.tmps.toList ∧ a'.defers = [] ∧ HR T w0 m' s'.g w' ∧ Steps P (lone (b.at a todo) cs w) (lone { b.at a' todo' with mode := .returning } cs w')

theorem runs_step {orc : Orc} (hz : ZeroOk P) (ho : OrcOk P T orc) (hmix : P.follows .mixedOrders = true) {ih : Task → VM Out} (hi : CallsOk P T w0 ih) (hf : ∀ t, Fr (ih t)) (hr : RunsOk P T w0 ih) : RunsOk P T w0 (exStep P orc ih) := by
  intro tmps todo s tmps' j s' h m a w ht hd hw b cs
  have go : ∀ {todo2 : List Item}, step P (lone (b.at a todo) cs w) = .next (lone (b.at a todo2) cs w) → ih (.run tmps todo2) s = some (.fin tmps' j, s') →
      ∃ m' a' w' todo', m.le m' ∧ LRel T m' tmps' a'.tmps.toList ∧ a'.defers = [] ∧ HR T w0 m' s'.g w' ∧ Steps P (lone (b.at a todo) cs w) (lone { b.at a' todo' with mode := .returning } cs w') := by
    intro todo2 h1 h2
    obtain ⟨m', a', w', todo', p1, p2, p3, p4, p5⟩ := hr _ _ _ _ _ _ h2 m a w ht hd hw b cs
    exact ⟨m', a', w', todo', p1, p2, p3, p4, .head h1 p5⟩
  cases todo with
  | nil =>
    obtain ⟨h1, rfl⟩ := ret_some h
    cases h1
    exact ⟨m, a, w, [], Ren.le_refl m, ht, hd, hw, .one step_end⟩
  | cons it k =>
    cases it with
    | inBlock id => exact go step_inBlock h
    | inLoop c => exact go step_inLoop h
    | inScope c => exact go step_inScope h
    | code c =>
      cases c with
      | skip => exact go step_skip h
      | region id ops draw =>
        obtain ⟨t1, s1, h1, h2⟩ := bind_some h
        obtain ⟨e, a1, w1, ⟨rfl, m1, q1, q2, q3, q4⟩, harr⟩ := region_wp (id := id) hz ho hmix hi hf h1 ht hw b k cs
        obtain ⟨m', a', w', todo', p1, p2, p3, p4, p5⟩ := hr _ _ _ _ _ _ h2 m1 a1 w1 q2 (q3.trans hd) q4 b cs
        exact ⟨m', a', w', todo', Ren.le_trans q1 p1, p2, p3, p4, Steps.trans harr p5⟩
      | seq x y => exact go step_seq h
      | cond c x y =>
        simp only [exStep] at h
        cases hc : veval tmps c with
        | none => rw [hc] at h; exact (fail_some h).elim
        | some v =>
          rw [hc] at h
          cases v with
          | bool t =>
            have hv := eval_rel ht hc
            have : a.eval c = .bool t := by
              generalize a.eval c = v at hv
              cases hv
              rfl
            exact go (step_cond this) h
          | _ => exact (fail_some (n := 0) (s := s) h).elim
      | block id c => exact go step_block h
      | loop c => exact go step_loop h
      | exit id =>
        simp only [exStep] at h
        cases hk : exitTo id k with
        | none => rw [hk] at h; exact (fail_some h).elim
        | some k' => rw [hk] at h; exact go (step_exit hk) h
      | label l => exact go step_label h
      | goto l =>
        simp only [exStep] at h
        cases hk : gotoIn l k with
        | none => rw [hk] at h; exact (fail_some h).elim
        | some k' => rw [hk] at h; exact go (step_goto hk) h
      | scope c => exact go step_scope h
      | ret =>
        obtain ⟨h1, rfl⟩ := ret_some h
        cases h1
        exact ⟨m, a, w, _, Ren.le_refl m, ht, hd, hw, .one step_ret⟩
      | _ => exact (fail_some (n := 0) (s := s) h).elim
    | _ => exact (fail_some (n := 0) (s := s) h).elim

theorem calls_step {orc : Orc} {ih : Task → VM Out} (hr : RunsOk P T w0 ih) : CallsOk P T w0 (exStep P orc ih) := by
  intro f args s v s' h m w args' ha hw cs
  obtain ⟨fn, s0, h1, h2⟩ := bind_some h
  obtain ⟨hf, rfl⟩ := lift_some h1
  obtain ⟨body, s0, h1, h3⟩ := bind_some h2
  obtain ⟨hb, rfl⟩ := lift_some h1
  obtain ⟨out, s1, h4, h5⟩ := bind_some h3
  cases out with
  | val _ => exact (fail_some h5).elim
  | fin tmps j =>
    obtain ⟨v1, s2, h6, h7⟩ := bind_some h5
    obtain ⟨h8, rfl⟩ := ret_some h7
    cases h8
    let b : Frame := { (default : Frame) with fn := f, kind := .normal }
    have hsz := ha.size
    have henter : Frame.enter P f args' .normal = b.at { tmps := args' ++ Array.replicate (fn.ntmps - args'.size) undef, defers := [] } [.code body] := by
      simp [Frame.enter, Frame.at, hf, hb, b]
    have ht : LRel T m (args.toList ++ List.replicate (fn.ntmps - args.size) undef) ({ tmps := args' ++ Array.replicate (fn.ntmps - args'.size) undef, defers := [] } : Act).tmps.toList := by
      simp only [Array.toList_append, Array.toList_replicate]
      rw [← hsz]
      refine LRel.append ha ⟨rfl, fun i h h' => ?_⟩
      rw [List.getElem_replicate]
      exact undef_rel m
    obtain ⟨m', a', w', todo', p1, p2, p3, p4, p5⟩ := hr _ _ _ _ _ _ h4 m _ w ht rfl hw b cs
    obtain ⟨m2, v', w2, q0, q1, q2, q3⟩ := TSim.results (P := P) (fn := fn) (ts := tmps.toArray) (a := a'.tmps) (m := m') p2 _ _ _ _ h6 p4
    have hsame := Still.results fn a'.tmps _ _ _ q1
    subst hsame
    rw [← henter] at p5
    exact ⟨.returned v', _, _, ⟨m2, v', Ren.le_trans p1 q0, rfl, q2, q3⟩, p5, rfl, rfl, p3, rfl, fn, hf, q1⟩

theorem ex_ok {orc : Orc} (hz : ZeroOk P) (ho : OrcOk P T orc) (hmix : P.follows .mixedOrders = true) : ∀ n, RunsOk P T w0 (ex P orc n) ∧ CallsOk P T w0 (ex P orc n)
  | 0 => ⟨fun _ _ s _ _ _ h => (fail_some (n := 0) (s := s) h).elim, fun _ _ s _ _ h => (fail_some (n := 0) (s := s) h).elim⟩
  | n + 1 => by
    obtain ⟨h1, h2⟩ := ex_ok hz ho hmix n
    exact ⟨runs_step hz ho hmix h2 (Fr.ex n) h1, calls_step h1⟩

end
end Vx
end

section
/- The world in which every variable is settled, without asking which variables wait. Conditions: the program has no variable internal/cpu.X86. -/
namespace Vx
open Go

section
variable {P : Program} {os : Os}

def fz (P : Program) (g : Global) : Array Value := (linked P g).getD ((((P.types[g.type]?).bind (·.zero)).map (·.cells)).getD #[])
def tailB (P : Program) : List Obj := [.cells ((Array.range P.types.size).map fun t => .int .u64 (Int.ofNat t)) 0, .map #[] 0, .finalizers #[] none, .cells #[.bool false] 0, .finalizers #[] none]
def fastHeap (P : Program) : List Obj := (P.globals.toList.map fun g => Obj.cells (fz P g) g.type) ++ tailB P
def noCpu (P : Program) : Bool := P.globals.toList.all fun g => !(g.name == "internal/cpu.X86")
def fastWorld (P : Program) (os : Os) : World := { heap := (fastHeap P).toArray, tape := fun _ _ => 0, drawn := 0, os, output := #[] }

theorem begin_heap : ∃ F : Nat → Global → Obj, (begin P (fun _ _ => 0) os).world.heap.toList = P.globals.toList.mapIdx F ++ tailB P ∧
    ∀ i g, (g.name == "internal/cpu.X86") = false → F i g = .pending (fz P g) g.type ∨ F i g = .cells (fz P g) g.type := by
  refine ⟨fun i g => if (waiting P).getD i false then .pending (fz P g) g.type else .cells (if g.name == "internal/cpu.X86" then cpuFlags P g.type (fz P g) ((Question.extern "internal/cpu.X86" 0).cut 0) else fz P g) g.type, ?_, fun i g h => ?_⟩
  · simp only [begin, Array.toList_push, Array.toList_mapIdx, tailB, List.append_assoc, List.cons_append, List.nil_append]
    rfl
  · simp only [h, Bool.false_eq_true, if_false]
    split
    · exact .inl rfl
    · exact .inr rfl

theorem noCpu_at (h : noCpu P = true) {g : Global} (hg : g ∈ P.globals.toList) : (g.name == "internal/cpu.X86") = false := by
  have := List.all_eq_true.1 h g hg
  simpa using this

theorem settled_heap (h : noCpu P = true) : (World.settled P os).heap = (fastHeap P).toArray := by
  obtain ⟨F, h1, h2⟩ := begin_heap (P := P) (os := os)
  simp only [World.settled, h1, List.map_append]
  congr 1
  unfold fastHeap
  congr 1
  refine List.ext_getElem (by simp) fun i hi hi' => ?_
  simp only [List.getElem_map, List.getElem_mapIdx]
  have hm : P.globals.toList[i]'(by simpa using hi) ∈ P.globals.toList := List.getElem_mem _
  rcases h2 i _ (noCpu_at h hm) with h3 | h3 <;> rw [h3]

theorem holding_fast (h : noCpu P = true) : World.holding P os ⟨#[], #[], []⟩ = fastWorld P os := by
  have hc : P.globals.any (·.name == "internal/cpu.X86") = false := by
    rw [← Bool.not_eq_true, ← Array.any_toList, List.any_eq_true]
    rintro ⟨g, hg, he⟩
    rw [noCpu_at h hg] at he
    cases he
  have hh := settled_heap (os := os) h
  unfold World.holding
  rw [hh]
  simp only [World.settled, begin, fastWorld, hc, Array.append_empty]
  rfl

theorem row_fast (h : noCpu P = true) (g : Nat) (hg : g < P.globals.size) : ((begin P (fun _ _ => 0) os).world.heap[g]?).bind Obj.row? = ((fastHeap P)[g]?).bind Obj.row? := by
  obtain ⟨F, h1, h2⟩ := begin_heap (P := P) (os := os)
  rw [← Array.getElem?_toList, h1]
  unfold fastHeap
  rw [List.getElem?_append_left (by simpa using hg), List.getElem?_append_left (by simpa using hg)]
  simp only [List.getElem?_mapIdx, List.getElem?_map]
  have hg' : g < P.globals.toList.length := by simpa using hg
  rw [List.getElem?_eq_getElem hg']
  simp only [Option.map_some, Option.bind_some]
  rcases h2 g _ (noCpu_at h (List.getElem_mem hg')) with h3 | h3 <;> rw [h3] <;> rfl

def fastVars (P : Program) (w : World) : Bool :=
  (List.range P.globals.size).all fun g =>
    match ((fastHeap P)[g]?).bind Obj.row? with
    | none => true
    | some (zero, t) =>
      match w.heap[g]? with
      | some (.cells cs t' frozen) => decide (t' = t) && decide (frozen = (0, 0)) && cs.size == zero.size && (!P.buildable t || match P.cellTypes P.depth t with | some ts => Lay.zipOk P w cs.toList ts | none => false)
      | _ => false

theorem vars_fast (h : noCpu P = true) {w : World} (hw : fastVars P w = true) : w.variablesZipB P = true := by
  unfold fastVars at hw
  unfold World.variablesZipB
  rw [List.all_eq_true] at hw ⊢
  intro g hg
  have := hw g hg
  rw [row_fast h g (List.mem_range.1 hg)]
  exact this

theorem tail_fast {w : World} (hw : (w.heap.toList.drop P.globals.size).take 5 = tailB P) :
    (w.heap.toList.drop P.globals.size).take ((begin P (fun _ _ => 0) os).world.heap.size - P.globals.size) = (begin P (fun _ _ => 0) os).world.heap.toList.drop P.globals.size := by
  obtain ⟨F, h1, _⟩ := begin_heap (P := P) (os := os)
  have hl : (P.globals.toList.mapIdx F).length = P.globals.size := by simp
  have hs : (begin P (fun _ _ => 0) os).world.heap.size - P.globals.size = 5 := by
    rw [← Array.length_toList, h1, List.length_append, hl]
    simp [tailB]
  rw [hs, hw, h1, ← hl, List.drop_left]

theorem shaped_fast (h : noCpu P = true) {w : World} (h1 : fastVars P w = true) (h2 : (w.heap.toList.drop P.globals.size).take 5 = tailB P) : w.Shaped P :=
  World.shaped_of_ZipB (vars_fast h h1) (tail_fast h2)

noncomputable def fastLaid (P : Program) (os : Os) (laid : List (String × DataW Unit)) : World := (fastWorld P os).layVars P laid
theorem laidAll_fast (h : noCpu P = true) (laid : List (String × DataW Unit)) : World.laidAll P os laid = fastLaid P os laid := by
  unfold World.laidAll fastLaid
  rw [holding_fast h]
theorem fastLaid_os (laid : List (String × DataW Unit)) : (fastLaid P os laid).os = os := World.layVars_os _ _ _
theorem laid_fast (h : noCpu P = true) {laid : List (String × DataW Unit)} (args : Array Value) (hf : (fastWorld P os).layFits P laid [] = true) (hi : (fastWorld P os).layIfaces P laid (fastLaid P os laid) = true) :
    laidMet P laid ((fastLaid P os laid).forCall (fun _ _ => 0) ⟨#[], args, []⟩).memory := by
  have := laidMet_laidAll (P := P) (os := os) (laid := laid) args (by rw [holding_fast h]; exact hf) (by rw [holding_fast h, laidAll_fast h]; exact hi)
  rw [laidAll_fast h] at this
  exact this
end
end Vx
end

section
/- A virtual executor of the model's programs: what a run of it shows. Conditions: those that each theorem names. -/
set_option linter.unusedVariables false
set_option linter.unusedSimpArgs false
namespace Vx
open Go Go.RowKit

def start : VS := { cnt := 1, heap := .leaf, trk := false, log := [] }

def saysTrue : Option (Out × VS) → Bool
  | some (.val (.bool true), _) => true
  | _ => false

section
variable {P : Program} {T : Nat → Option Value}

theorem start_rel (w : World) : HR T w (fun _ => none) start.g w where
  bel := Below.refl _ _
  rows := fun r cs e f st h => by cases h
  objs := fun r o h => by cases h
  sep := fun r r' _ _ _ _ _ _ _ _ _ _ _ _ _ _ h => by cases h
  osep := fun r r' _ _ _ _ _ _ _ _ h => by cases h
  fams := fun r cs e f st h => by cases h
  dom := fun r x h => by cases h
  inw := fun r b o l h => by cases h

theorem zeroOk (P : Program) : ZeroOk P := by
  intro t i z ht hi hz
  unfold zgood at ht
  rw [hi] at ht
  simp only [hz, Bool.and_eq_true, beq_iff_eq] at ht
  exact ht

/-- The executor's answer is true: the call returns true, and touches nothing that there was. -/
theorem calls_true {orc : Orc} (ho : OrcOk P T orc) (hmix : P.follows .mixedOrders = true) {n : Nat} {f : FuncId} {args args' : Array Value} (h : saysTrue (ex P orc n (.call f args) start) = true)
    (ha : ARel T (fun _ => none) args args') (w : World) : Calls P f args' w fun e w' => e = .returned (.bool true) ∧ Below w.heap.size w w' := by
  unfold saysTrue at h
  split at h
  · rename_i s' hs
    refine Calls.mono ((ex_ok (zeroOk P) ho hmix n).2 f args start _ s' hs _ w args' ha (start_rel w)) ?_
    rintro e w' ⟨m', v', _, rfl, hv, hw⟩
    cases hv
    exact ⟨rfl, hw.bel⟩
  · cases h

end
end Vx
end
